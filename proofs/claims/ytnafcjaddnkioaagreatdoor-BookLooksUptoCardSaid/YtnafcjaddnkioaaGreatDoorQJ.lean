/- Small, Depth, Count and the struct comparisons as plain Lean, with their contracts: written by the kit's printer for this claim. -/
import Derived.Test.YtnafcjaddnkioaaGreatDoorQI
import Derived.Test.YtnafcjaddnkioaaGreatDoorQH
section
set_option linter.unusedVariables false
set_option linter.unusedSimpArgs false
namespace Go.Proofs.YtnafcjaddnkioaaGreatDoor.PLooks
open Go.RowKit Go.Proofs.YtnafcjaddnkioaaGreatDoorW.PrintWords Go.Proofs.YtnafcjaddnkioaaGreatDoorW.PrintLast Go.Proofs.YtnafcjaddnkioaaGreatDoorW.PrintMore
attribute [local go_sem] max2_int min2_int max_two min_two max_three min_three max_four min_four   -- for this text's walks alone
set_option linter.unusedVariables false
set_option linter.unusedSimpArgs false
theorem eqA28 (d : Nat) (w : World) (x0 y0 : Int) (x1 y1 : Int) :
    (Op.equalIn (d + 2) 28 (.agg #[.int .i64 x0, .int .i64 x1]) (.agg #[.int .i64 y0, .int .i64 y1])).run Tryz.prog w = .ok (x0 == y0 && (x1 == y1)) w := by
  refine eqA_of Tryz.underlying28 (by kernel_rfl) ?_
  refine eqf_cons (by rfl) (by go_simp; rfl) (by go_simp; rfl) (by go_simp) ?_
  exact eqf_last (by rfl) (by go_simp; rfl) (by go_simp; rfl) (by go_simp)
theorem eqA30 (d : Nat) (w : World) (x0 y0 : Int) (x1 y1 : Int) (x2 y2 : Int) (x3 y3 : ByteArray) (x4 y4 : Bool) (x5 y5 : Int) :
    (Op.equalIn (d + 3) 30 (.agg #[.int .i64 x0, .int .i64 x1, .int .i64 x2, .string x3, .bool x4, .int .i64 x5]) (.agg #[.int .i64 y0, .int .i64 y1, .int .i64 y2, .string y3, .bool y4, .int .i64 y5])).run Tryz.prog w = .ok (x0 == y0 && ((x1 == y1 && (x2 == y2)) && (x3.toList == y3.toList && (x4 == y4 && (x5 == y5))))) w := by
  refine eqA_of Tryz.underlying30 (by kernel_rfl) ?_
  refine eqf_cons (by rfl) (by go_simp; rfl) (by go_simp; rfl) (by go_simp) ?_
  refine eqf_cons (by rfl) (by go_simp) (by go_simp) (eqA28 (d + 0) w _ _ _ _) ?_
  refine eqf_cons (by rfl) (by go_simp; rfl) (by go_simp; rfl) (by go_simp) ?_
  refine eqf_cons (by rfl) (by go_simp; rfl) (by go_simp; rfl) (by go_simp) ?_
  exact eqf_last (by rfl) (by go_simp; rfl) (by go_simp; rfl) (by go_simp)
end Go.Proofs.YtnafcjaddnkioaaGreatDoor.PLooks
end
section
set_option linter.unusedVariables false
set_option linter.unusedSimpArgs false
namespace Go.Proofs.YtnafcjaddnkioaaGreatDoor.PLooks
open Go.RowKit Go.Proofs.YtnafcjaddnkioaaGreatDoorW.PrintWords Go.Proofs.YtnafcjaddnkioaaGreatDoorW.PrintLast Go.Proofs.YtnafcjaddnkioaaGreatDoorW.PrintMore
attribute [local go_sem] max2_int min2_int max_two min_two max_three min_three max_four min_four   -- for this text's walks alone
set_option linter.unusedVariables false
set_option linter.unusedSimpArgs false
theorem eqA32 (d : Nat) (w : World) (x0 y0 : ByteArray) (x1 y1 : Int) (x2 y2 : Int) (x3 y3 : Bool) (x4 y4 : Bool) :
    (Op.equalIn (d + 2) 32 (.agg #[.string x0, .int .i64 x1, .int .i64 x2, .bool x3, .bool x4]) (.agg #[.string y0, .int .i64 y1, .int .i64 y2, .bool y3, .bool y4])).run Tryz.prog w = .ok (x0.toList == y0.toList && (x1 == y1 && (x2 == y2 && (x3 == y3 && (x4 == y4))))) w := by
  refine eqA_of Tryz.underlying32 (by kernel_rfl) ?_
  refine eqf_cons (by rfl) (by go_simp; rfl) (by go_simp; rfl) (by go_simp) ?_
  refine eqf_cons (by rfl) (by go_simp; rfl) (by go_simp; rfl) (by go_simp) ?_
  refine eqf_cons (by rfl) (by go_simp; rfl) (by go_simp; rfl) (by go_simp) ?_
  refine eqf_cons (by rfl) (by go_simp; rfl) (by go_simp; rfl) (by go_simp) ?_
  exact eqf_last (by rfl) (by go_simp; rfl) (by go_simp; rfl) (by go_simp)
end Go.Proofs.YtnafcjaddnkioaaGreatDoor.PLooks
end
section
set_option linter.unusedVariables false
set_option linter.unusedSimpArgs false
namespace Go.Proofs.YtnafcjaddnkioaaGreatDoor.PLooks
open Go.RowKit Go.Proofs.YtnafcjaddnkioaaGreatDoorW.PrintWords Go.Proofs.YtnafcjaddnkioaaGreatDoorW.PrintLast Go.Proofs.YtnafcjaddnkioaaGreatDoorW.PrintMore
attribute [local go_sem] max2_int min2_int max_two min_two max_three min_three max_four min_four   -- for this text's walks alone
set_option linter.unusedVariables false
set_option linter.unusedSimpArgs false
/-! ### quireref12_Depth: function 11 -/
mutual
def quireref12_Depth.l0 : Nat → Int → Int → Int → Int → Int → Int → ByteArray → Bool → Int → ByteArray → Int → Int → Bool → Bool → ByteArray → Int → Int → Bool → Bool → ByteArray → Int → List (S35) → Option (Int)
  | 0, _, _, _, _, _, _, _, _, _, _, _, _, _, _, _, _, _, _, _, _, _, _ => none
  | k + 1, x3, x4, x102000, x102001, x102002, x102003, x102004, x102005, x102006, x102007, x102008, x102009, x102010, x102011, x102012, x102013, x102014, x102015, x102016, x102017, x102018, x102019 => if x4 < (x102019.length : Int) then (if 0 ≤ x4 then ((quireref12_Depth.f k ((rd_T35 x102019 x4).f0) ((rd_T35 x102019 x4).f1.f0) ((rd_T35 x102019 x4).f1.f1.f0) ((rd_T35 x102019 x4).f1.f1.f1) ((rd_T35 x102019 x4).f1.f2) ((rd_T35 x102019 x4).f1.f3) ((rd_T35 x102019 x4).f1.f4) ((rd_T35 x102019 x4).f2.f0) ((rd_T35 x102019 x4).f2.f1) ((rd_T35 x102019 x4).f2.f2) ((rd_T35 x102019 x4).f2.f3) ((rd_T35 x102019 x4).f2.f4) ((rd_T35 x102019 x4).f3.f0) ((rd_T35 x102019 x4).f3.f1) ((rd_T35 x102019 x4).f3.f2) ((rd_T35 x102019 x4).f3.f3) ((rd_T35 x102019 x4).f3.f4) ((rd_T35 x102019 x4).f4) ((rd_T35 x102019 x4).f5) ((rd_T35 x102019 x4).f6)).bind fun t103 => (quireref12_Depth.l0 k (mx x3 t103) (wrap64 (x4 + 1)) x102000 x102001 x102002 x102003 x102004 x102005 x102006 x102007 x102008 x102009 x102010 x102011 x102012 x102013 x102014 x102015 x102016 x102017 x102018 x102019)) else (none)) else (some (wrap64 (x3 + 1)))
def quireref12_Depth.f : Nat → Int → Int → Int → Int → ByteArray → Bool → Int → ByteArray → Int → Int → Bool → Bool → ByteArray → Int → Int → Bool → Bool → ByteArray → Int → List (S35) → Option (Int)
  | 0, _, _, _, _, _, _, _, _, _, _, _, _, _, _, _, _, _, _, _, _ => none
  | k + 1, a0_0, a0_1, a0_2, a0_3, a0_4, a0_5, a0_6, a0_7, a0_8, a0_9, a0_10, a0_11, a0_12, a0_13, a0_14, a0_15, a0_16, a0_17, a0_18, l0_19 => quireref12_Depth.l0 k 0 0 a0_0 a0_1 a0_2 a0_3 a0_4 a0_5 a0_6 a0_7 a0_8 a0_9 a0_10 a0_11 a0_12 a0_13 a0_14 a0_15 a0_16 a0_17 a0_18 l0_19
end
theorem quireref12_Depth.mono_l : ∀ k, (∀ y0 y1 y2 y3 y4 y5 y6 y7 y8 y9 y10 y11 y12 y13 y14 y15 y16 y17 y18 y19, LeO (quireref12_Depth.f k y0 y1 y2 y3 y4 y5 y6 y7 y8 y9 y10 y11 y12 y13 y14 y15 y16 y17 y18 y19) (quireref12_Depth.f (k + 1) y0 y1 y2 y3 y4 y5 y6 y7 y8 y9 y10 y11 y12 y13 y14 y15 y16 y17 y18 y19)) ∧ (∀ y0 y1 y2 y3 y4 y5 y6 y7 y8 y9 y10 y11 y12 y13 y14 y15 y16 y17 y18 y19 y20 y21, LeO (quireref12_Depth.l0 k y0 y1 y2 y3 y4 y5 y6 y7 y8 y9 y10 y11 y12 y13 y14 y15 y16 y17 y18 y19 y20 y21) (quireref12_Depth.l0 (k + 1) y0 y1 y2 y3 y4 y5 y6 y7 y8 y9 y10 y11 y12 y13 y14 y15 y16 y17 y18 y19 y20 y21))
  | 0 => ⟨fun _ _ _ _ _ _ _ _ _ _ _ _ _ _ _ _ _ _ _ _ r h => by simp [quireref12_Depth.f] at h, fun _ _ _ _ _ _ _ _ _ _ _ _ _ _ _ _ _ _ _ _ _ _ r h => by simp [quireref12_Depth.l0] at h⟩
  | k + 1 => by
    obtain ⟨ih0, ih1⟩ := quireref12_Depth.mono_l k
    refine ⟨?_, ?_⟩
    · intro y0 y1 y2 y3 y4 y5 y6 y7 y8 y9 y10 y11 y12 y13 y14 y15 y16 y17 y18 y19
      unfold quireref12_Depth.f
      repeat' first
      | (with_reducible exact ih0 _ _ _ _ _ _ _ _ _ _ _ _ _ _ _ _ _ _ _ _)
      | (with_reducible exact ih1 _ _ _ _ _ _ _ _ _ _ _ _ _ _ _ _ _ _ _ _ _ _)
      | (with_reducible exact LeO.refl _)
      | (with_reducible exact LeO.none _)
      | (with_reducible refine LeO.ite ?_ ?_)
      | (with_reducible refine LeO.bind ?_ (fun _ => ?_))
      | exact ih0 _ _ _ _ _ _ _ _ _ _ _ _ _ _ _ _ _ _ _ _
      | exact ih1 _ _ _ _ _ _ _ _ _ _ _ _ _ _ _ _ _ _ _ _ _ _
      | exact LeO.none _
      | refine LeO.ite ?_ ?_
      | refine LeO.bind ?_ (fun _ => ?_)
    · intro y0 y1 y2 y3 y4 y5 y6 y7 y8 y9 y10 y11 y12 y13 y14 y15 y16 y17 y18 y19 y20 y21
      unfold quireref12_Depth.l0
      repeat' first
      | (with_reducible exact ih0 _ _ _ _ _ _ _ _ _ _ _ _ _ _ _ _ _ _ _ _)
      | (with_reducible exact ih1 _ _ _ _ _ _ _ _ _ _ _ _ _ _ _ _ _ _ _ _ _ _)
      | (with_reducible exact LeO.refl _)
      | (with_reducible exact LeO.none _)
      | (with_reducible refine LeO.ite ?_ ?_)
      | (with_reducible refine LeO.bind ?_ (fun _ => ?_))
      | exact ih0 _ _ _ _ _ _ _ _ _ _ _ _ _ _ _ _ _ _ _ _
      | exact ih1 _ _ _ _ _ _ _ _ _ _ _ _ _ _ _ _ _ _ _ _ _ _
      | exact LeO.none _
      | refine LeO.ite ?_ ?_
      | refine LeO.bind ?_ (fun _ => ?_)
theorem quireref12_Depth.mono : ∀ a0 a1 a2 a3 a4 a5 a6 a7 a8 a9 a10 a11 a12 a13 a14 a15 a16 a17 a18 a19 k, LeO (quireref12_Depth.f k a0 a1 a2 a3 a4 a5 a6 a7 a8 a9 a10 a11 a12 a13 a14 a15 a16 a17 a18 a19) (quireref12_Depth.f (k + 1) a0 a1 a2 a3 a4 a5 a6 a7 a8 a9 a10 a11 a12 a13 a14 a15 a16 a17 a18 a19) := by
  intro a0 a1 a2 a3 a4 a5 a6 a7 a8 a9 a10 a11 a12 a13 a14 a15 a16 a17 a18 a19 k
  obtain ⟨ih0, ih1⟩ := quireref12_Depth.mono_l k
  exact ih0 a0 a1 a2 a3 a4 a5 a6 a7 a8 a9 a10 a11 a12 a13 a14 a15 a16 a17 a18 a19
set_option maxHeartbeats 8000000 in
set_option maxRecDepth 100000 in
theorem quireref12_Depth.calls (k : Nat) : ∀ (a0_0 : Int) (a0_1 : Int) (a0_2 : Int) (a0_3 : Int) (a0_4 : ByteArray) (a0_5 : Bool) (a0_6 : Int) (a0_7 : ByteArray) (a0_8 : Int) (a0_9 : Int) (a0_10 : Bool) (a0_11 : Bool) (a0_12 : ByteArray) (a0_13 : Int) (a0_14 : Int) (a0_15 : Bool) (a0_16 : Bool) (a0_17 : ByteArray) (a0_18 : Int) (A0_19 : Option Addr) (c0_19 : Nat) (l0_19 : List (S35)) (r : Int) (w : World) (hr0_19 : Kd.C k35 w A0_19 l0_19.length l0_19) (hc0_19 : l0_19.length ≤ c0_19) (h : quireref12_Depth.f k a0_0 a0_1 a0_2 a0_3 a0_4 a0_5 a0_6 a0_7 a0_8 a0_9 a0_10 a0_11 a0_12 a0_13 a0_14 a0_15 a0_16 a0_17 a0_18 l0_19 = some r),
    Calls Tryz.prog 11 #[.agg #[.int .i64 a0_0, .int .i64 a0_1, .int .i64 a0_2, .int .i64 a0_3, .string a0_4, .bool a0_5, .int .i64 a0_6, .string a0_7, .int .i64 a0_8, .int .i64 a0_9, .bool a0_10, .bool a0_11, .string a0_12, .int .i64 a0_13, .int .i64 a0_14, .bool a0_15, .bool a0_16, .string a0_17, .int .i64 a0_18, .slice A0_19 l0_19.length c0_19]] w fun e w' => e = .returned (.int .i64 r) ∧ Below w.heap.size w w' := by
  induction k using Nat.strongRecOn with
  | _ k ih =>
  intro a0_0 a0_1 a0_2 a0_3 a0_4 a0_5 a0_6 a0_7 a0_8 a0_9 a0_10 a0_11 a0_12 a0_13 a0_14 a0_15 a0_16 a0_17 a0_18 A0_19 c0_19 l0_19 r w hr0_19 hc0_19 h
  cases k with
  | zero => exact absurd h (by simp [quireref12_Depth.f])
  | succ k =>
  simp only [quireref12_Depth.f] at h
  have hu35 := Tryz.underlying35
  have HR0_19 := Aside0.mk hr0_19
  have HC0_19 := Aside0.mk hc0_19
  clear hr0_19 hc0_19
  have HB := Aside0.mk (Below.refl w.heap.size w)
  have H : (quireref12_Depth.l0 k 0 0 a0_0 a0_1 a0_2 a0_3 a0_4 a0_5 a0_6 a0_7 a0_8 a0_9 a0_10 a0_11 a0_12 a0_13 a0_14 a0_15 a0_16 a0_17 a0_18 l0_19) = some r := h
  clear h
  have H' := Aside0.mk H
  clear H
  go_enter Tryz.func11, Tryz.ntmps11
  go_wp2_with (first | ((with_reducible refine gate_load (t := 35) rfl ?_); (try (refine gate_guard (by first | rfl | (go_simp; done) | (go_simp; assumption)) ?_; dsimp only)); refine load_event20 rfl rfl (by first | rfl | (go_simp; done) | (go_simp; rfl)) Tryz.isAgg35 Tryz.sizeOf35 ?_) | ((with_reducible refine gate_dst (N := 1) rfl ?_); refine box_event ?hg (N := 1) ?hd (cs := #[.int .i64 a0_0, .int .i64 a0_1, .int .i64 a0_2, .int .i64 a0_3, .string a0_4, .bool a0_5, .int .i64 a0_6, .string a0_7, .int .i64 a0_8, .int .i64 a0_9, .bool a0_10, .bool a0_11, .string a0_12, .int .i64 a0_13, .int .i64 a0_14, .bool a0_15, .bool a0_16, .string a0_17, .int .i64 a0_18, .slice A0_19 l0_19.length c0_19]) (t := 35) ?hr ?_; (case hd => rfl); (case hg => rfl); (case hr => first | (go_simp; done) | (go_simp; rfl)); intro gb101 hg w2 hbox hb; have n0_ := Aside0.mk (below_step (by repeat (first | (with_reducible first | exact HB.out | apply below_alloc | apply pw_below_drewN | apply below_drew1) | exact HB.out)) hb); have n1_ := Aside0.mk (hbox); have n2_ := Aside0.mk ((by rw [hg]; exact (below_size (by repeat (first | (with_reducible first | exact HB.out | apply below_alloc | apply pw_below_drewN | apply below_drew1) | exact HB.out))) : w.heap.size ≤ gb101)); have n3_ := Aside0.mk ((by rw [hg]; exact (below_size (by repeat (first | (with_reducible first | exact HB.out | apply below_alloc | apply pw_below_drewN | apply below_drew1) | exact HB.out))) : w.heap.size ≤ gb101)); clear HB; have HB := n0_; have BK101 := n1_; have GW101 := n2_; have GE101 := n3_; clear n0_ n1_ n2_ n3_; clear hb hbox hg))
  go_loopg [3, 4] k (fun kq v3 v4 w' => ∃ (x3_1 : Int) (x4_1 : Int), v3 = .int .i64 x3_1 ∧ v4 = .int .i64 x4_1 ∧ Aside0 (quireref12_Depth.l0 kq x3_1 x4_1 a0_0 a0_1 a0_2 a0_3 a0_4 a0_5 a0_6 a0_7 a0_8 a0_9 a0_10 a0_11 a0_12 a0_13 a0_14 a0_15 a0_16 a0_17 a0_18 l0_19 = some r) ∧ Aside0 (kq ≤ k) ∧ Aside0 (w'.heap[gb101]? = some (.cells #[.int .i64 a0_0, .int .i64 a0_1, .int .i64 a0_2, .int .i64 a0_3, .string a0_4, .bool a0_5, .int .i64 a0_6, .string a0_7, .int .i64 a0_8, .int .i64 a0_9, .bool a0_10, .bool a0_11, .string a0_12, .int .i64 a0_13, .int .i64 a0_14, .bool a0_15, .bool a0_16, .string a0_17, .int .i64 a0_18, (.slice A0_19 l0_19.length c0_19)] 35 (0, 0))) ∧ Aside0 (Below w.heap.size w w'))
  case atStart => exact ⟨(0), (0), (by first | rfl | (simp; done) | (simp [*]; done)), (by first | rfl | (simp; done) | (simp [*]; done)), H', ⟨Nat.le_refl _⟩, ⟨by (with_reducible repeat (first | refine blk_drewN ?_ _ | refine blk_drew ?_ | refine blk_alloc ?_ _)); exact BK101.out⟩, ⟨by repeat (first | (with_reducible first | exact HB.out | apply below_alloc | apply pw_below_drewN | apply below_drew1 | refine below_set ?_ GE101.out) | exact HB.out)⟩⟩
  case round =>
    clear H'
    try clear c1
    try clear p2
    obtain ⟨x3_1, x4_1, rfl, rfl, HA, HK1, BK101, HB⟩ := hrel
    cases gk with
    | zero => exact absurd HA.out (by simp [quireref12_Depth.l0])
    | succ k1 =>
      have H := HA.out
      clear HA
      simp only [quireref12_Depth.l0] at H
      by_cases c3 : x4_1 < (l0_19.length : Int)
      · rw [if_pos c3] at H
        have c3b0 : decide (x4_1 < (l0_19.length : Int)) = true := decide_eq_true c3
        clear c3
        by_cases c4 : 0 ≤ x4_1
        · rw [if_pos c4] at H
          have c4b0 : decide (0 ≤ x4_1) = true := decide_eq_true c4
          clear c4
          replace H := Option.bind_eq_some_iff.mp H
          obtain ⟨t103, A50, H⟩ := H
          replace H : (quireref12_Depth.l0 k1 (mx x3_1 t103) (wrap64 (x4_1 + 1)) a0_0 a0_1 a0_2 a0_3 a0_4 a0_5 a0_6 a0_7 a0_8 a0_9 a0_10 a0_11 a0_12 a0_13 a0_14 a0_15 a0_16 a0_17 a0_18 l0_19) = some r := H
          have A5 := Aside0.mk A50
          clear A50
          obtain ⟨ji6, hji6⟩ : ∃ j_ : Int, (mx x3_1 t103) = j_ := ⟨_, rfl⟩
          replace H : (quireref12_Depth.l0 k1 ji6 (wrap64 (x4_1 + 1)) a0_0 a0_1 a0_2 a0_3 a0_4 a0_5 a0_6 a0_7 a0_8 a0_9 a0_10 a0_11 a0_12 a0_13 a0_14 a0_15 a0_16 a0_17 a0_18 l0_19) = some r := by first | (rw [hji6] at H; exact H) | (simp only [hji6] at H ⊢; exact H)
          (try rw [hji6] at A5)
          have hji6_ : (if x3_1 < t103 then t103 else x3_1) = ji6 := hji6
          have H' := Aside0.mk H
          clear H
          obtain ⟨hcz7_0, hcz7_1, hcz7_2, hcz7_3, hcz7_4, hcz7_5, hcz7_6, hcz7_7, hcz7_8, hcz7_9, hcz7_10, hcz7_11, hcz7_12, hcz7_13, hcz7_14, hcz7_15, hcz7_16, hcz7_17, hcz7_18, hcz7_19⟩ := blk20 BK101.out
          obtain ⟨hfz7_0, hfz7_1, hfz7_2, hfz7_3, hfz7_4, hfz7_5, hfz7_6, hfz7_7, hfz7_8, hfz7_9, hfz7_10, hfz7_11, hfz7_12, hfz7_13, hfz7_14, hfz7_15, hfz7_16, hfz7_17, hfz7_18, hfz7_19⟩ := frz20 BK101.out
          have p102 : 0 ≤ (x4_1 : Int) := of_decide_eq_true (by first | (with_reducible assumption) | assumption)
          have q102 : x4_1 < (l0_19.length : Int) := of_decide_eq_true (by first | (with_reducible assumption) | assumption)
          obtain ⟨ad102, A102_19, c102_19, e102, hx102_0, hx102_1, hx102_2, hx102_3, hx102_4, hx102_5, hx102_6, hx102_7, hx102_8, hx102_9, hx102_10, hx102_11, hx102_12, hx102_13, hx102_14, hx102_15, hx102_16, hx102_17, hx102_18, hx102_19, hl102_19, hi102_19⟩ := at_T35 HR0_19.out x4_1 p102 q102
          cases e102
          replace hx102_0 := (HB.out.cell (World.block_lt_of_cell? w _ hx102_0)).trans hx102_0
          replace hx102_1 := (HB.out.cell (World.block_lt_of_cell? w _ hx102_1)).trans hx102_1
          replace hx102_2 := (HB.out.cell (World.block_lt_of_cell? w _ hx102_2)).trans hx102_2
          replace hx102_3 := (HB.out.cell (World.block_lt_of_cell? w _ hx102_3)).trans hx102_3
          replace hx102_4 := (HB.out.cell (World.block_lt_of_cell? w _ hx102_4)).trans hx102_4
          replace hx102_5 := (HB.out.cell (World.block_lt_of_cell? w _ hx102_5)).trans hx102_5
          replace hx102_6 := (HB.out.cell (World.block_lt_of_cell? w _ hx102_6)).trans hx102_6
          replace hx102_7 := (HB.out.cell (World.block_lt_of_cell? w _ hx102_7)).trans hx102_7
          replace hx102_8 := (HB.out.cell (World.block_lt_of_cell? w _ hx102_8)).trans hx102_8
          replace hx102_9 := (HB.out.cell (World.block_lt_of_cell? w _ hx102_9)).trans hx102_9
          replace hx102_10 := (HB.out.cell (World.block_lt_of_cell? w _ hx102_10)).trans hx102_10
          replace hx102_11 := (HB.out.cell (World.block_lt_of_cell? w _ hx102_11)).trans hx102_11
          replace hx102_12 := (HB.out.cell (World.block_lt_of_cell? w _ hx102_12)).trans hx102_12
          replace hx102_13 := (HB.out.cell (World.block_lt_of_cell? w _ hx102_13)).trans hx102_13
          replace hx102_14 := (HB.out.cell (World.block_lt_of_cell? w _ hx102_14)).trans hx102_14
          replace hx102_15 := (HB.out.cell (World.block_lt_of_cell? w _ hx102_15)).trans hx102_15
          replace hx102_16 := (HB.out.cell (World.block_lt_of_cell? w _ hx102_16)).trans hx102_16
          replace hx102_17 := (HB.out.cell (World.block_lt_of_cell? w _ hx102_17)).trans hx102_17
          replace hx102_18 := (HB.out.cell (World.block_lt_of_cell? w _ hx102_18)).trans hx102_18
          replace hx102_19 := (HB.out.cell (World.block_lt_of_cell? w _ hx102_19)).trans hx102_19
          have HR102_19 := Aside0.mk hi102_19
          have HC102_19 := Aside0.mk hl102_19
          clear hi102_19 hl102_19
          replace p102 := eq_true p102
          replace q102 := eq_true q102
          go_wp2_with (first | ((with_reducible refine gate_load (t := 35) rfl ?_); (try (refine gate_guard (by first | rfl | (go_simp; done) | (go_simp; assumption)) ?_; dsimp only)); refine load_event20 rfl rfl (by first | rfl | (go_simp; done) | (go_simp; rfl)) Tryz.isAgg35 Tryz.sizeOf35 ?_) | ((with_reducible refine gate_callee (f := 11) rfl ?_); refine goesL_ (some 18) rfl rfl Tryz.func11 (by kernel_rfl) rfl #[.agg #[.int .i64 ((rd_T35 l0_19 x4_1).f0), .int .i64 ((rd_T35 l0_19 x4_1).f1.f0), .int .i64 ((rd_T35 l0_19 x4_1).f1.f1.f0), .int .i64 ((rd_T35 l0_19 x4_1).f1.f1.f1), .string ((rd_T35 l0_19 x4_1).f1.f2), .bool ((rd_T35 l0_19 x4_1).f1.f3), .int .i64 ((rd_T35 l0_19 x4_1).f1.f4), .string ((rd_T35 l0_19 x4_1).f2.f0), .int .i64 ((rd_T35 l0_19 x4_1).f2.f1), .int .i64 ((rd_T35 l0_19 x4_1).f2.f2), .bool ((rd_T35 l0_19 x4_1).f2.f3), .bool ((rd_T35 l0_19 x4_1).f2.f4), .string ((rd_T35 l0_19 x4_1).f3.f0), .int .i64 ((rd_T35 l0_19 x4_1).f3.f1), .int .i64 ((rd_T35 l0_19 x4_1).f3.f2), .bool ((rd_T35 l0_19 x4_1).f3.f3), .bool ((rd_T35 l0_19 x4_1).f3.f4), .string ((rd_T35 l0_19 x4_1).f4), .int .i64 ((rd_T35 l0_19 x4_1).f5), .slice A102_19 ((rd_T35 l0_19 x4_1).f6).length c102_19]] rfl (by (try simp only [List.map_toArray, List.map_cons, List.map_nil]); first | done | rfl | (simp only [List.length_drop, List.length_take]; rfl)) ?_; (with_reducible refine (ih k1 (by have := HK1.out; omega) ((rd_T35 l0_19 x4_1).f0) ((rd_T35 l0_19 x4_1).f1.f0) ((rd_T35 l0_19 x4_1).f1.f1.f0) ((rd_T35 l0_19 x4_1).f1.f1.f1) ((rd_T35 l0_19 x4_1).f1.f2) ((rd_T35 l0_19 x4_1).f1.f3) ((rd_T35 l0_19 x4_1).f1.f4) ((rd_T35 l0_19 x4_1).f2.f0) ((rd_T35 l0_19 x4_1).f2.f1) ((rd_T35 l0_19 x4_1).f2.f2) ((rd_T35 l0_19 x4_1).f2.f3) ((rd_T35 l0_19 x4_1).f2.f4) ((rd_T35 l0_19 x4_1).f3.f0) ((rd_T35 l0_19 x4_1).f3.f1) ((rd_T35 l0_19 x4_1).f3.f2) ((rd_T35 l0_19 x4_1).f3.f3) ((rd_T35 l0_19 x4_1).f3.f4) ((rd_T35 l0_19 x4_1).f4) ((rd_T35 l0_19 x4_1).f5) _ _ ((rd_T35 l0_19 x4_1).f6) t103 _ ?side1 ?side2 A5.out).mono ?_); (case side1 => repeat (first | exact (Kd.C_below HR102_19.out HB.out) | (with_reducible refine Kd.C_alloc ?_ _) | (with_reducible refine Kd.C_drewN ?_ _) | (with_reducible refine Kd.C_drew ?_))); (case side2 => exact HC102_19.out); rintro e w8 ⟨rfl, hb⟩; refine ⟨_, rfl, ?_⟩; have n0_ := Aside0.mk (blk_below (g := gb101) (o := .cells #[.int .i64 a0_0, .int .i64 a0_1, .int .i64 a0_2, .int .i64 a0_3, .string a0_4, .bool a0_5, .int .i64 a0_6, .string a0_7, .int .i64 a0_8, .int .i64 a0_9, .bool a0_10, .bool a0_11, .string a0_12, .int .i64 a0_13, .int .i64 a0_14, .bool a0_15, .bool a0_16, .string a0_17, .int .i64 a0_18, .slice (some ad102) l0_19.length c0_19] 35 (0, 0)) (by (with_reducible repeat (first | refine blk_drewN ?_ _ | refine blk_drew ?_ | refine blk_alloc ?_ _)); exact BK101.out) hb); have n1_ := Aside0.mk (below_step (by repeat (first | (with_reducible first | exact HB.out | apply below_alloc | apply pw_below_drewN | apply below_drew1 | refine below_set ?_ GE101.out) | exact HB.out)) hb); clear BK101; clear HB; have BK101 := n0_; have HB := n1_; clear n0_ n1_; (try clear hb); (try clear hb2); (try clear hk); (try clear hi)))
          go_roundg k1
          case measure => have := HK1.out; omega
          case rel => exact ⟨(ji6), (wrap64 (x4_1 + 1)), (by first | rfl | (simp; done) | (simp only [← hji6] <;> (first | rfl | simp)) | (simp [*]; done)), (by first | rfl | (simp; done) | (simp [*]; done)), H', ⟨by have := HK1.out; omega⟩, ⟨by (with_reducible repeat (first | refine blk_drewN ?_ _ | refine blk_drew ?_ | refine blk_alloc ?_ _)); exact BK101.out⟩, ⟨by repeat (first | (with_reducible first | exact HB.out | apply below_alloc | apply pw_below_drewN | apply below_drew1 | refine below_set ?_ GE101.out) | exact HB.out)⟩⟩
        · rw [if_neg c4] at H
          exact absurd H (by simp)
      · rw [if_neg c3] at H
        have c3b0 : decide (x4_1 < (l0_19.length : Int)) = false := decide_eq_false c3
        clear c3
        obtain rfl := Option.some.inj H
        obtain ⟨hcz9_0, hcz9_1, hcz9_2, hcz9_3, hcz9_4, hcz9_5, hcz9_6, hcz9_7, hcz9_8, hcz9_9, hcz9_10, hcz9_11, hcz9_12, hcz9_13, hcz9_14, hcz9_15, hcz9_16, hcz9_17, hcz9_18, hcz9_19⟩ := blk20 BK101.out
        obtain ⟨hfz9_0, hfz9_1, hfz9_2, hfz9_3, hfz9_4, hfz9_5, hfz9_6, hfz9_7, hfz9_8, hfz9_9, hfz9_10, hfz9_11, hfz9_12, hfz9_13, hfz9_14, hfz9_15, hfz9_16, hfz9_17, hfz9_18, hfz9_19⟩ := frz20 BK101.out
        go_wp2_with (first | ((with_reducible refine gate_load (t := 35) rfl ?_); (try (refine gate_guard (by first | rfl | (go_simp; done) | (go_simp; assumption)) ?_; dsimp only)); refine load_event20 rfl rfl (by first | rfl | (go_simp; done) | (go_simp; rfl)) Tryz.isAgg35 Tryz.sizeOf35 ?_))
        go_ret
        exact ⟨by first | rfl | (simp [errW_none, errW_some] <;> rfl) | (simp [*, errW_none, errW_some] <;> rfl), by repeat (first | (with_reducible first | exact HB.out | apply below_alloc | apply pw_below_drewN | apply below_drew1 | refine below_set ?_ GE101.out) | exact HB.out)⟩
end Go.Proofs.YtnafcjaddnkioaaGreatDoor.PLooks
end
section
set_option linter.unusedVariables false
set_option linter.unusedSimpArgs false
namespace Go.Proofs.YtnafcjaddnkioaaGreatDoor.PLooks
open Go.RowKit Go.Proofs.YtnafcjaddnkioaaGreatDoorW.PrintWords Go.Proofs.YtnafcjaddnkioaaGreatDoorW.PrintLast Go.Proofs.YtnafcjaddnkioaaGreatDoorW.PrintMore
attribute [local go_sem] max2_int min2_int max_two min_two max_three min_three max_four min_four   -- for this text's walks alone
set_option linter.unusedVariables false
set_option linter.unusedSimpArgs false
/-! ### quireref15_Count: function 23 -/
def quireref15_Count.l0 : Nat → Int → Int → List (S65) → List (S67) → List ByteArray → Option (Int)
  | 0, _, _, _, _, _ => none
  | k + 1, x3, x4, x105000, x105001, x105002 => if x4 < (x105000.length : Int) then (if 0 ≤ x4 then (quireref15_Count.l0 k (wrap64 (x3 + (((rd_T65 x105000 x4).f1).length : Int))) (wrap64 (x4 + 1)) x105000 x105001 x105002) else (none)) else (some x3)
def quireref15_Count.f (k : Nat) (l0_0 : List (S65)) (l0_1 : List (S67)) (l0_2 : List ByteArray) : Option (Int) := quireref15_Count.l0 k 0 0 l0_0 l0_1 l0_2
theorem quireref15_Count.mono_l : ∀ k, (∀ y0 y1 y2 y3 y4, LeO (quireref15_Count.l0 k y0 y1 y2 y3 y4) (quireref15_Count.l0 (k + 1) y0 y1 y2 y3 y4))
  | 0 => fun _ _ _ _ _ r h => by simp [quireref15_Count.l0] at h
  | k + 1 => by
    have ih0 := quireref15_Count.mono_l k
    · intro y0 y1 y2 y3 y4
      unfold quireref15_Count.l0
      repeat' first
      | (with_reducible exact ih0 _ _ _ _ _)
      | (with_reducible exact LeO.refl _)
      | (with_reducible exact LeO.none _)
      | (with_reducible refine LeO.ite ?_ ?_)
      | (with_reducible refine LeO.bind ?_ (fun _ => ?_))
      | exact ih0 _ _ _ _ _
      | exact LeO.none _
      | refine LeO.ite ?_ ?_
      | refine LeO.bind ?_ (fun _ => ?_)
theorem quireref15_Count.mono : ∀ a0 a1 a2 k, LeO (quireref15_Count.f k a0 a1 a2) (quireref15_Count.f (k + 1) a0 a1 a2) := by
  intro a0 a1 a2 k
  have ih0 := quireref15_Count.mono_l k
  unfold quireref15_Count.f
  repeat' first
      | (with_reducible exact ih0 _ _ _ _ _)
      | (with_reducible exact LeO.refl _)
      | (with_reducible exact LeO.none _)
      | (with_reducible refine LeO.ite ?_ ?_)
      | (with_reducible refine LeO.bind ?_ (fun _ => ?_))
      | exact ih0 _ _ _ _ _
      | exact LeO.none _
      | refine LeO.ite ?_ ?_
      | refine LeO.bind ?_ (fun _ => ?_)
set_option maxHeartbeats 8000000 in
set_option maxRecDepth 100000 in
theorem quireref15_Count.calls (k : Nat) (A0_0 : Option Addr) (c0_0 : Nat) (l0_0 : List (S65)) (A0_1 : Option Addr) (c0_1 : Nat) (l0_1 : List (S67)) (A0_2 : Option Addr) (c0_2 : Nat) (l0_2 : List ByteArray) (r : Int) (w : World) (hr0_0 : Kd.C k65 w A0_0 l0_0.length l0_0) (hc0_0 : l0_0.length ≤ c0_0) (hr0_1 : Kd.C k67 w A0_1 l0_1.length l0_1) (hc0_1 : l0_1.length ≤ c0_1) (hr0_2 : Kd.C Kd.string w A0_2 l0_2.length l0_2) (hc0_2 : l0_2.length ≤ c0_2) (h : quireref15_Count.f k l0_0 l0_1 l0_2 = some r) :
    Calls Tryz.prog 23 #[.agg #[.slice A0_0 l0_0.length c0_0, .slice A0_1 l0_1.length c0_1, .slice A0_2 l0_2.length c0_2]] w fun e w' => e = .returned (.int .i64 r) ∧ Below w.heap.size w w' := by
  have hu26 := Tryz.underlying26
  have HR0_0 := Aside0.mk hr0_0
  have HC0_0 := Aside0.mk hc0_0
  clear hr0_0 hc0_0
  have HR0_1 := Aside0.mk hr0_1
  have HC0_1 := Aside0.mk hc0_1
  clear hr0_1 hc0_1
  have HR0_2 := Aside0.mk hr0_2
  have HC0_2 := Aside0.mk hc0_2
  clear hr0_2 hc0_2
  have HB := Aside0.mk (Below.refl w.heap.size w)
  have H : (quireref15_Count.l0 k 0 0 l0_0 l0_1 l0_2) = some r := h
  clear h
  have H' := Aside0.mk H
  clear H
  go_enter Tryz.func23, Tryz.ntmps23
  go_wp2_with (first | ((with_reducible refine gate_dst (N := 1) rfl ?_); refine box_event ?hg (N := 1) ?hd (cs := #[.slice A0_0 l0_0.length c0_0, .slice A0_1 l0_1.length c0_1, .slice A0_2 l0_2.length c0_2]) (t := 26) ?hr ?_; (case hd => rfl); (case hg => rfl); (case hr => first | (go_simp; done) | (go_simp; rfl)); intro gb104 hg w2 hbox hb; have n0_ := Aside0.mk (below_step (by repeat (first | (with_reducible first | exact HB.out | apply below_alloc | apply pw_below_drewN | apply below_drew1) | exact HB.out)) hb); have n1_ := Aside0.mk (hbox); have n2_ := Aside0.mk ((by rw [hg]; exact (below_size (by repeat (first | (with_reducible first | exact HB.out | apply below_alloc | apply pw_below_drewN | apply below_drew1) | exact HB.out))) : w.heap.size ≤ gb104)); have n3_ := Aside0.mk ((by rw [hg]; exact (below_size (by repeat (first | (with_reducible first | exact HB.out | apply below_alloc | apply pw_below_drewN | apply below_drew1) | exact HB.out))) : w.heap.size ≤ gb104)); clear HB; have HB := n0_; have BK104 := n1_; have GW104 := n2_; have GE104 := n3_; clear n0_ n1_ n2_ n3_; clear hb hbox hg))
  go_loopg [3, 4] k (fun kq v3 v4 w' => ∃ (x3_1 : Int) (x4_1 : Int), v3 = .int .i64 x3_1 ∧ v4 = .int .i64 x4_1 ∧ Aside0 (quireref15_Count.l0 kq x3_1 x4_1 l0_0 l0_1 l0_2 = some r) ∧ Aside0 (kq ≤ k) ∧ Aside0 (w'.heap[gb104]? = some (.cells #[(.slice A0_0 l0_0.length c0_0), (.slice A0_1 l0_1.length c0_1), (.slice A0_2 l0_2.length c0_2)] 26 (0, 0))) ∧ Aside0 (Below w.heap.size w w'))
  case atStart => exact ⟨(0), (0), (by first | rfl | (simp; done) | (simp [*]; done)), (by first | rfl | (simp; done) | (simp [*]; done)), H', ⟨Nat.le_refl _⟩, ⟨by (with_reducible repeat (first | refine blk_drewN ?_ _ | refine blk_drew ?_ | refine blk_alloc ?_ _)); exact BK104.out⟩, ⟨by repeat (first | (with_reducible first | exact HB.out | apply below_alloc | apply pw_below_drewN | apply below_drew1 | refine below_set ?_ GE104.out) | exact HB.out)⟩⟩
  case round =>
    clear H'
    try clear c2
    try clear p2
    obtain ⟨x3_1, x4_1, rfl, rfl, HA, HK1, BK104, HB⟩ := hrel
    cases gk with
    | zero => exact absurd HA.out (by simp [quireref15_Count.l0])
    | succ k1 =>
      have H := HA.out
      clear HA
      simp only [quireref15_Count.l0] at H
      by_cases c3 : x4_1 < (l0_0.length : Int)
      · rw [if_pos c3] at H
        have c3b0 : decide (x4_1 < (l0_0.length : Int)) = true := decide_eq_true c3
        clear c3
        by_cases c4 : 0 ≤ x4_1
        · rw [if_pos c4] at H
          have c4b0 : decide (0 ≤ x4_1) = true := decide_eq_true c4
          clear c4
          have H' := Aside0.mk H
          clear H
          have hcz5_0 : wr.cell? ⟨gb104, 0, none⟩ = some (.slice A0_0 l0_0.length c0_0) := (blk_cell BK104.out 0).trans rfl
          have hcz5_1 : wr.cell? ⟨gb104, 1, none⟩ = some (.slice A0_1 l0_1.length c0_1) := (blk_cell BK104.out 1).trans rfl
          have hcz5_2 : wr.cell? ⟨gb104, 2, none⟩ = some (.slice A0_2 l0_2.length c0_2) := (blk_cell BK104.out 2).trans rfl
          have hfz5_0 := blk_frozen BK104.out 0
          have hfz5_1 := blk_frozen BK104.out 1
          have hfz5_2 := blk_frozen BK104.out 2
          have p105 : 0 ≤ (x4_1 : Int) := of_decide_eq_true (by first | (with_reducible assumption) | assumption)
          have q105 : x4_1 < (l0_0.length : Int) := of_decide_eq_true (by first | (with_reducible assumption) | assumption)
          obtain ⟨ad105, A105_1, c105_1, e105, hx105_0, hx105_1, hl105_1, hi105_1⟩ := at_T65 HR0_0.out x4_1 p105 q105
          cases e105
          replace hx105_0 := (HB.out.cell (World.block_lt_of_cell? w _ hx105_0)).trans hx105_0
          replace hx105_1 := (HB.out.cell (World.block_lt_of_cell? w _ hx105_1)).trans hx105_1
          have HR105_1 := Aside0.mk hi105_1
          have HC105_1 := Aside0.mk hl105_1
          clear hi105_1 hl105_1
          replace p105 := eq_true p105
          replace q105 := eq_true q105
          go_wp2
          go_roundg k1
          case measure => have := HK1.out; omega
          case rel => exact ⟨(wrap64 (x3_1 + (((rd_T65 l0_0 x4_1).f1).length : Int))), (wrap64 (x4_1 + 1)), (by first | rfl | (simp; done) | (simp [*]; done)), (by first | rfl | (simp; done) | (simp [*]; done)), H', ⟨by have := HK1.out; omega⟩, ⟨by (with_reducible repeat (first | refine blk_drewN ?_ _ | refine blk_drew ?_ | refine blk_alloc ?_ _)); exact BK104.out⟩, ⟨by repeat (first | (with_reducible first | exact HB.out | apply below_alloc | apply pw_below_drewN | apply below_drew1 | refine below_set ?_ GE104.out) | exact HB.out)⟩⟩
        · rw [if_neg c4] at H
          exact absurd H (by simp)
      · rw [if_neg c3] at H
        have c3b0 : decide (x4_1 < (l0_0.length : Int)) = false := decide_eq_false c3
        clear c3
        obtain rfl := Option.some.inj H
        have hcz6_0 : wr.cell? ⟨gb104, 0, none⟩ = some (.slice A0_0 l0_0.length c0_0) := (blk_cell BK104.out 0).trans rfl
        have hcz6_1 : wr.cell? ⟨gb104, 1, none⟩ = some (.slice A0_1 l0_1.length c0_1) := (blk_cell BK104.out 1).trans rfl
        have hcz6_2 : wr.cell? ⟨gb104, 2, none⟩ = some (.slice A0_2 l0_2.length c0_2) := (blk_cell BK104.out 2).trans rfl
        have hfz6_0 := blk_frozen BK104.out 0
        have hfz6_1 := blk_frozen BK104.out 1
        have hfz6_2 := blk_frozen BK104.out 2
        go_wp2
        go_ret
        exact ⟨by first | rfl | (simp [errW_none, errW_some] <;> rfl) | (simp [*, errW_none, errW_some] <;> rfl), by repeat (first | (with_reducible first | exact HB.out | apply below_alloc | apply pw_below_drewN | apply below_drew1 | refine below_set ?_ GE104.out) | exact HB.out)⟩
end Go.Proofs.YtnafcjaddnkioaaGreatDoor.PLooks
end
section
set_option linter.unusedVariables false
set_option linter.unusedSimpArgs false
namespace Go.Proofs.YtnafcjaddnkioaaGreatDoor.PLooks
open Go.RowKit Go.Proofs.YtnafcjaddnkioaaGreatDoorW.PrintWords Go.Proofs.YtnafcjaddnkioaaGreatDoorW.PrintLast Go.Proofs.YtnafcjaddnkioaaGreatDoorW.PrintMore
attribute [local go_sem] max2_int min2_int max_two min_two max_three min_three max_four min_four   -- for this text's walks alone
set_option linter.unusedVariables false
set_option linter.unusedSimpArgs false
/-! ### quirelaw15_Small: function 9 -/
mutual
def quirelaw15_Small.j0 : Nat → Bool → List (S65) → List (S67) → List ByteArray → Option (Bool)
  | 0, _, _, _, _ => none
  | k + 1, x26, x107000, x107001, x107002 => if x26 = true then (some false) else (quirelaw15_Small.l0 k 0 x107000 x107001 x107002)
def quirelaw15_Small.l0 : Nat → Int → List (S65) → List (S67) → List ByteArray → Option (Bool)
  | 0, _, _, _, _ => none
  | k + 1, x3, x107000, x107001, x107002 => if x3 < (x107000.length : Int) then (quirelaw15_Small.l1 k x3 0 x107000 x107001 x107002) else (quirelaw15_Small.l2 k 0 x107000 x107001 x107002)
def quirelaw15_Small.l1 : Nat → Int → Int → List (S65) → List (S67) → List ByteArray → Option (Bool)
  | 0, _, _, _, _, _ => none
  | k + 1, x3, x4, x107000, x107001, x107002 => if 0 ≤ x3 then (if x3 < (x107000.length : Int) then (if x4 < (((rd_T65 x107000 x3).f1).length : Int) then (if 0 ≤ x4 then ((quireref12_Depth.f k ((rd_T39 ((rd_T65 x107000 x3).f1) x4).f2.f2.f0) ((rd_T39 ((rd_T65 x107000 x3).f1) x4).f2.f2.f1.f0) ((rd_T39 ((rd_T65 x107000 x3).f1) x4).f2.f2.f1.f1.f0) ((rd_T39 ((rd_T65 x107000 x3).f1) x4).f2.f2.f1.f1.f1) ((rd_T39 ((rd_T65 x107000 x3).f1) x4).f2.f2.f1.f2) ((rd_T39 ((rd_T65 x107000 x3).f1) x4).f2.f2.f1.f3) ((rd_T39 ((rd_T65 x107000 x3).f1) x4).f2.f2.f1.f4) ((rd_T39 ((rd_T65 x107000 x3).f1) x4).f2.f2.f2.f0) ((rd_T39 ((rd_T65 x107000 x3).f1) x4).f2.f2.f2.f1) ((rd_T39 ((rd_T65 x107000 x3).f1) x4).f2.f2.f2.f2) ((rd_T39 ((rd_T65 x107000 x3).f1) x4).f2.f2.f2.f3) ((rd_T39 ((rd_T65 x107000 x3).f1) x4).f2.f2.f2.f4) ((rd_T39 ((rd_T65 x107000 x3).f1) x4).f2.f2.f3.f0) ((rd_T39 ((rd_T65 x107000 x3).f1) x4).f2.f2.f3.f1) ((rd_T39 ((rd_T65 x107000 x3).f1) x4).f2.f2.f3.f2) ((rd_T39 ((rd_T65 x107000 x3).f1) x4).f2.f2.f3.f3) ((rd_T39 ((rd_T65 x107000 x3).f1) x4).f2.f2.f3.f4) ((rd_T39 ((rd_T65 x107000 x3).f1) x4).f2.f2.f4) ((rd_T39 ((rd_T65 x107000 x3).f1) x4).f2.f2.f5) ((rd_T39 ((rd_T65 x107000 x3).f1) x4).f2.f2.f6)).bind fun t111 => (if t111 > 100 then (some false) else (quirelaw15_Small.l1 k x3 (wrap64 (x4 + 1)) x107000 x107001 x107002))) else (none)) else (quirelaw15_Small.l0 k (wrap64 (x3 + 1)) x107000 x107001 x107002)) else (none)) else (none)
def quirelaw15_Small.l2 : Nat → Int → List (S65) → List (S67) → List ByteArray → Option (Bool)
  | 0, _, _, _, _ => none
  | k + 1, x5, x107000, x107001, x107002 => if x5 < (x107001.length : Int) then (if 0 ≤ x5 then ((quireref12_Depth.f k ((rd_T67 x107001 x5).f1.f0) ((rd_T67 x107001 x5).f1.f1.f0) ((rd_T67 x107001 x5).f1.f1.f1.f0) ((rd_T67 x107001 x5).f1.f1.f1.f1) ((rd_T67 x107001 x5).f1.f1.f2) ((rd_T67 x107001 x5).f1.f1.f3) ((rd_T67 x107001 x5).f1.f1.f4) ((rd_T67 x107001 x5).f1.f2.f0) ((rd_T67 x107001 x5).f1.f2.f1) ((rd_T67 x107001 x5).f1.f2.f2) ((rd_T67 x107001 x5).f1.f2.f3) ((rd_T67 x107001 x5).f1.f2.f4) ((rd_T67 x107001 x5).f1.f3.f0) ((rd_T67 x107001 x5).f1.f3.f1) ((rd_T67 x107001 x5).f1.f3.f2) ((rd_T67 x107001 x5).f1.f3.f3) ((rd_T67 x107001 x5).f1.f3.f4) ((rd_T67 x107001 x5).f1.f4) ((rd_T67 x107001 x5).f1.f5) ((rd_T67 x107001 x5).f1.f6)).bind fun t113 => (if t113 > 100 then (some false) else (quirelaw15_Small.l2 k (wrap64 (x5 + 1)) x107000 x107001 x107002))) else (none)) else (some true)
end
def quirelaw15_Small.f (k : Nat) (l0_0 : List (S65)) (l0_1 : List (S67)) (l0_2 : List ByteArray) : Option (Bool) := if (l0_0.length : Int) > 32 then (quirelaw15_Small.j0 k true l0_0 l0_1 l0_2) else ((quireref15_Count.f k l0_0 l0_1 l0_2).bind fun t107 => (if t107 > 4000 then (quirelaw15_Small.j0 k true l0_0 l0_1 l0_2) else (if (l0_1.length : Int) > 128 then (quirelaw15_Small.j0 k true l0_0 l0_1 l0_2) else (quirelaw15_Small.j0 k (decide ((l0_2.length : Int) > 128)) l0_0 l0_1 l0_2))))
theorem quirelaw15_Small.mono_l : ∀ k, (∀ y0 y1 y2 y3, LeO (quirelaw15_Small.j0 k y0 y1 y2 y3) (quirelaw15_Small.j0 (k + 1) y0 y1 y2 y3)) ∧ (∀ y0 y1 y2 y3, LeO (quirelaw15_Small.l0 k y0 y1 y2 y3) (quirelaw15_Small.l0 (k + 1) y0 y1 y2 y3)) ∧ (∀ y0 y1 y2 y3 y4, LeO (quirelaw15_Small.l1 k y0 y1 y2 y3 y4) (quirelaw15_Small.l1 (k + 1) y0 y1 y2 y3 y4)) ∧ (∀ y0 y1 y2 y3, LeO (quirelaw15_Small.l2 k y0 y1 y2 y3) (quirelaw15_Small.l2 (k + 1) y0 y1 y2 y3))
  | 0 => ⟨fun _ _ _ _ r h => by simp [quirelaw15_Small.j0] at h, fun _ _ _ _ r h => by simp [quirelaw15_Small.l0] at h, fun _ _ _ _ _ r h => by simp [quirelaw15_Small.l1] at h, fun _ _ _ _ r h => by simp [quirelaw15_Small.l2] at h⟩
  | k + 1 => by
    obtain ⟨ih0, ih1, ih2, ih3⟩ := quirelaw15_Small.mono_l k
    refine ⟨?_, ?_, ?_, ?_⟩
    · intro y0 y1 y2 y3
      unfold quirelaw15_Small.j0
      repeat' first
      | (with_reducible exact ih0 _ _ _ _)
      | (with_reducible exact ih1 _ _ _ _)
      | (with_reducible exact ih2 _ _ _ _ _)
      | (with_reducible exact ih3 _ _ _ _)
      | (with_reducible exact quireref12_Depth.mono _ _ _ _ _ _ _ _ _ _ _ _ _ _ _ _ _ _ _ _ _)
      | (with_reducible exact quireref15_Count.mono _ _ _ _)
      | (with_reducible exact LeO.refl _)
      | (with_reducible exact LeO.none _)
      | (with_reducible refine LeO.ite ?_ ?_)
      | (with_reducible refine LeO.bind ?_ (fun _ => ?_))
      | exact ih0 _ _ _ _
      | exact ih1 _ _ _ _
      | exact ih2 _ _ _ _ _
      | exact ih3 _ _ _ _
      | exact quireref12_Depth.mono _ _ _ _ _ _ _ _ _ _ _ _ _ _ _ _ _ _ _ _ _
      | exact quireref15_Count.mono _ _ _ _
      | exact LeO.none _
      | refine LeO.ite ?_ ?_
      | refine LeO.bind ?_ (fun _ => ?_)
    · intro y0 y1 y2 y3
      unfold quirelaw15_Small.l0
      repeat' first
      | (with_reducible exact ih0 _ _ _ _)
      | (with_reducible exact ih1 _ _ _ _)
      | (with_reducible exact ih2 _ _ _ _ _)
      | (with_reducible exact ih3 _ _ _ _)
      | (with_reducible exact quireref12_Depth.mono _ _ _ _ _ _ _ _ _ _ _ _ _ _ _ _ _ _ _ _ _)
      | (with_reducible exact quireref15_Count.mono _ _ _ _)
      | (with_reducible exact LeO.refl _)
      | (with_reducible exact LeO.none _)
      | (with_reducible refine LeO.ite ?_ ?_)
      | (with_reducible refine LeO.bind ?_ (fun _ => ?_))
      | exact ih0 _ _ _ _
      | exact ih1 _ _ _ _
      | exact ih2 _ _ _ _ _
      | exact ih3 _ _ _ _
      | exact quireref12_Depth.mono _ _ _ _ _ _ _ _ _ _ _ _ _ _ _ _ _ _ _ _ _
      | exact quireref15_Count.mono _ _ _ _
      | exact LeO.none _
      | refine LeO.ite ?_ ?_
      | refine LeO.bind ?_ (fun _ => ?_)
    · intro y0 y1 y2 y3 y4
      unfold quirelaw15_Small.l1
      repeat' first
      | (with_reducible exact ih0 _ _ _ _)
      | (with_reducible exact ih1 _ _ _ _)
      | (with_reducible exact ih2 _ _ _ _ _)
      | (with_reducible exact ih3 _ _ _ _)
      | (with_reducible exact quireref12_Depth.mono _ _ _ _ _ _ _ _ _ _ _ _ _ _ _ _ _ _ _ _ _)
      | (with_reducible exact quireref15_Count.mono _ _ _ _)
      | (with_reducible exact LeO.refl _)
      | (with_reducible exact LeO.none _)
      | (with_reducible refine LeO.ite ?_ ?_)
      | (with_reducible refine LeO.bind ?_ (fun _ => ?_))
      | exact ih0 _ _ _ _
      | exact ih1 _ _ _ _
      | exact ih2 _ _ _ _ _
      | exact ih3 _ _ _ _
      | exact quireref12_Depth.mono _ _ _ _ _ _ _ _ _ _ _ _ _ _ _ _ _ _ _ _ _
      | exact quireref15_Count.mono _ _ _ _
      | exact LeO.none _
      | refine LeO.ite ?_ ?_
      | refine LeO.bind ?_ (fun _ => ?_)
    · intro y0 y1 y2 y3
      unfold quirelaw15_Small.l2
      repeat' first
      | (with_reducible exact ih0 _ _ _ _)
      | (with_reducible exact ih1 _ _ _ _)
      | (with_reducible exact ih2 _ _ _ _ _)
      | (with_reducible exact ih3 _ _ _ _)
      | (with_reducible exact quireref12_Depth.mono _ _ _ _ _ _ _ _ _ _ _ _ _ _ _ _ _ _ _ _ _)
      | (with_reducible exact quireref15_Count.mono _ _ _ _)
      | (with_reducible exact LeO.refl _)
      | (with_reducible exact LeO.none _)
      | (with_reducible refine LeO.ite ?_ ?_)
      | (with_reducible refine LeO.bind ?_ (fun _ => ?_))
      | exact ih0 _ _ _ _
      | exact ih1 _ _ _ _
      | exact ih2 _ _ _ _ _
      | exact ih3 _ _ _ _
      | exact quireref12_Depth.mono _ _ _ _ _ _ _ _ _ _ _ _ _ _ _ _ _ _ _ _ _
      | exact quireref15_Count.mono _ _ _ _
      | exact LeO.none _
      | refine LeO.ite ?_ ?_
      | refine LeO.bind ?_ (fun _ => ?_)
theorem quirelaw15_Small.mono : ∀ a0 a1 a2 k, LeO (quirelaw15_Small.f k a0 a1 a2) (quirelaw15_Small.f (k + 1) a0 a1 a2) := by
  intro a0 a1 a2 k
  obtain ⟨ih0, ih1, ih2, ih3⟩ := quirelaw15_Small.mono_l k
  unfold quirelaw15_Small.f
  repeat' first
      | (with_reducible exact ih0 _ _ _ _)
      | (with_reducible exact ih1 _ _ _ _)
      | (with_reducible exact ih2 _ _ _ _ _)
      | (with_reducible exact ih3 _ _ _ _)
      | (with_reducible exact quireref12_Depth.mono _ _ _ _ _ _ _ _ _ _ _ _ _ _ _ _ _ _ _ _ _)
      | (with_reducible exact quireref15_Count.mono _ _ _ _)
      | (with_reducible exact LeO.refl _)
      | (with_reducible exact LeO.none _)
      | (with_reducible refine LeO.ite ?_ ?_)
      | (with_reducible refine LeO.bind ?_ (fun _ => ?_))
      | exact ih0 _ _ _ _
      | exact ih1 _ _ _ _
      | exact ih2 _ _ _ _ _
      | exact ih3 _ _ _ _
      | exact quireref12_Depth.mono _ _ _ _ _ _ _ _ _ _ _ _ _ _ _ _ _ _ _ _ _
      | exact quireref15_Count.mono _ _ _ _
      | exact LeO.none _
      | refine LeO.ite ?_ ?_
      | refine LeO.bind ?_ (fun _ => ?_)
set_option maxHeartbeats 8000000 in
set_option maxRecDepth 100000 in
theorem quirelaw15_Small.calls (k : Nat) (A0_0 : Option Addr) (c0_0 : Nat) (l0_0 : List (S65)) (A0_1 : Option Addr) (c0_1 : Nat) (l0_1 : List (S67)) (A0_2 : Option Addr) (c0_2 : Nat) (l0_2 : List ByteArray) (r : Bool) (w : World) (hr0_0 : Kd.C k65 w A0_0 l0_0.length l0_0) (hc0_0 : l0_0.length ≤ c0_0) (hr0_1 : Kd.C k67 w A0_1 l0_1.length l0_1) (hc0_1 : l0_1.length ≤ c0_1) (hr0_2 : Kd.C Kd.string w A0_2 l0_2.length l0_2) (hc0_2 : l0_2.length ≤ c0_2) (h : quirelaw15_Small.f k l0_0 l0_1 l0_2 = some r) :
    Calls Tryz.prog 9 #[.agg #[.slice A0_0 l0_0.length c0_0, .slice A0_1 l0_1.length c0_1, .slice A0_2 l0_2.length c0_2]] w fun e w' => e = .returned (.bool r) ∧ Below w.heap.size w w' := by
  have hu26 := Tryz.underlying26
  have hu35 := Tryz.underlying35
  have HR0_0 := Aside0.mk hr0_0
  have HC0_0 := Aside0.mk hc0_0
  clear hr0_0 hc0_0
  have HR0_1 := Aside0.mk hr0_1
  have HC0_1 := Aside0.mk hc0_1
  clear hr0_1 hc0_1
  have HR0_2 := Aside0.mk hr0_2
  have HC0_2 := Aside0.mk hc0_2
  clear hr0_2 hc0_2
  have HB := Aside0.mk (Below.refl w.heap.size w)
  have H : (if (l0_0.length : Int) > 32 then (quirelaw15_Small.j0 k true l0_0 l0_1 l0_2) else ((quireref15_Count.f k l0_0 l0_1 l0_2).bind fun t107 => (if t107 > 4000 then (quirelaw15_Small.j0 k true l0_0 l0_1 l0_2) else (if (l0_1.length : Int) > 128 then (quirelaw15_Small.j0 k true l0_0 l0_1 l0_2) else (quirelaw15_Small.j0 k (decide ((l0_2.length : Int) > 128)) l0_0 l0_1 l0_2))))) = some r := h
  clear h
  have HC2 := Aside0.mk H
  clear H
  go_enter Tryz.func9, Tryz.ntmps9
  go_upto_region 1 with (first | ((with_reducible refine gate_load (t := 35) rfl ?_); (try (refine gate_guard (by first | rfl | (go_simp; done) | (go_simp; assumption)) ?_; dsimp only)); refine load_event20 rfl rfl (by first | rfl | (go_simp; done) | (go_simp; rfl)) Tryz.isAgg35 Tryz.sizeOf35 ?_) | ((with_reducible refine gate_dst (N := 1) rfl ?_); (try (refine gate_guard (by rfl) ?_; dsimp only)); refine box_event ?hg (N := 1) ?hd (cs := #[.slice A0_0 l0_0.length c0_0, .slice A0_1 l0_1.length c0_1, .slice A0_2 l0_2.length c0_2]) (t := 26) ?hr ?_; (case hd => rfl); (case hg => rfl); (case hr => first | (go_simp; done) | (go_simp; rfl)); intro gb106 hg w3 hbox hb; have n0_ := Aside0.mk (below_step (by repeat (first | (with_reducible first | exact HB.out | apply below_alloc | apply pw_below_drewN | apply below_drew1) | exact HB.out)) hb); have n1_ := Aside0.mk (hbox); have n2_ := Aside0.mk ((by rw [hg]; exact (below_size (by repeat (first | (with_reducible first | exact HB.out | apply below_alloc | apply pw_below_drewN | apply below_drew1) | exact HB.out))) : w.heap.size ≤ gb106)); have n3_ := Aside0.mk ((by rw [hg]; exact (below_size (by repeat (first | (with_reducible first | exact HB.out | apply below_alloc | apply pw_below_drewN | apply below_drew1) | exact HB.out))) : w.heap.size ≤ gb106)); clear HB; have HB := n0_; have BK106 := n1_; have GW106 := n2_; have GE106 := n3_; clear n0_ n1_ n2_ n3_; clear hb hbox hg))
  (try simp only [Act.put, List.setIfInBounds_toArray, List.set_cons_zero, List.set_cons_succ])
  go_cut [26] (fun v26 wc => ∃ (kq : Nat) (x26_1 : Bool), v26 = .bool x26_1 ∧ Aside0 (quirelaw15_Small.j0 kq x26_1 l0_0 l0_1 l0_2 = some r) ∧ Aside0 (kq ≤ k) ∧ Aside0 (wc.heap[gb106]? = some (.cells #[(.slice A0_0 l0_0.length c0_0), (.slice A0_1 l0_1.length c0_1), (.slice A0_2 l0_2.length c0_2)] 26 (0, 0))) ∧ Aside0 (Below w.heap.size w wc))
  case first =>
    have H := HC2.out
    clear HC2
    by_cases c4 : (l0_0.length : Int) > 32
    · rw [if_pos c4] at H
      have c4b0 : decide (32 < (l0_0.length : Int)) = true := decide_eq_true c4
      have c4b1 : decide (32 < l0_0.length) = true := decide_eq_true (by omega)
      clear c4
      (first | rw [c4b0] | (simp only [i64_w, i32_w]; rw [c4b0]) | skip)
      have H' := Aside0.mk H
      clear H
      have hcz5_0 : w3.cell? ⟨gb106, 0, none⟩ = some (.slice A0_0 l0_0.length c0_0) := (blk_cell BK106.out 0).trans rfl
      have hcz5_1 : w3.cell? ⟨gb106, 1, none⟩ = some (.slice A0_1 l0_1.length c0_1) := (blk_cell BK106.out 1).trans rfl
      have hcz5_2 : w3.cell? ⟨gb106, 2, none⟩ = some (.slice A0_2 l0_2.length c0_2) := (blk_cell BK106.out 2).trans rfl
      have hfz5_0 := blk_frozen BK106.out 0
      have hfz5_1 := blk_frozen BK106.out 1
      have hfz5_2 := blk_frozen BK106.out 2
      go_wp2_with (first | ((with_reducible refine gate_load (t := 35) rfl ?_); (try (refine gate_guard (by first | rfl | (go_simp; done) | (go_simp; assumption)) ?_; dsimp only)); refine load_event20 rfl rfl (by first | rfl | (go_simp; done) | (go_simp; rfl)) Tryz.isAgg35 Tryz.sizeOf35 ?_))
      go_meet
      case rel => exact ⟨_, (true), (by first | rfl | (simp; done) | (simp [*]; done)), H', ⟨by first | omega | exact Nat.le_refl _⟩, ⟨by (with_reducible repeat (first | refine blk_drewN ?_ _ | refine blk_drew ?_ | refine blk_alloc ?_ _)); exact BK106.out⟩, ⟨by repeat (first | (with_reducible first | exact HB.out | apply below_alloc | apply pw_below_drewN | apply below_drew1 | refine below_set ?_ GE106.out) | exact HB.out)⟩⟩
    · rw [if_neg c4] at H
      have c4b0 : decide (32 < (l0_0.length : Int)) = false := decide_eq_false c4
      have c4b1 : decide (32 < l0_0.length) = false := decide_eq_false (by omega)
      clear c4
      (first | rw [c4b0] | (simp only [i64_w, i32_w]; rw [c4b0]) | skip)
      replace H := Option.bind_eq_some_iff.mp H
      obtain ⟨t107, A60, H⟩ := H
      replace H : (if t107 > 4000 then (quirelaw15_Small.j0 k true l0_0 l0_1 l0_2) else (if (l0_1.length : Int) > 128 then (quirelaw15_Small.j0 k true l0_0 l0_1 l0_2) else (quirelaw15_Small.j0 k (decide ((l0_2.length : Int) > 128)) l0_0 l0_1 l0_2))) = some r := H
      have A6 := Aside0.mk A60
      clear A60
      by_cases c7 : t107 > 4000
      · rw [if_pos c7] at H
        have c7b0 : decide (4000 < t107) = true := decide_eq_true c7
        clear c7
        have H' := Aside0.mk H
        clear H
        have hcz8_0 : w3.cell? ⟨gb106, 0, none⟩ = some (.slice A0_0 l0_0.length c0_0) := (blk_cell BK106.out 0).trans rfl
        have hcz8_1 : w3.cell? ⟨gb106, 1, none⟩ = some (.slice A0_1 l0_1.length c0_1) := (blk_cell BK106.out 1).trans rfl
        have hcz8_2 : w3.cell? ⟨gb106, 2, none⟩ = some (.slice A0_2 l0_2.length c0_2) := (blk_cell BK106.out 2).trans rfl
        have hfz8_0 := blk_frozen BK106.out 0
        have hfz8_1 := blk_frozen BK106.out 1
        have hfz8_2 := blk_frozen BK106.out 2
        go_wp2_with (first | ((with_reducible refine gate_load (t := 35) rfl ?_); (try (refine gate_guard (by first | rfl | (go_simp; done) | (go_simp; assumption)) ?_; dsimp only)); refine load_event20 rfl rfl (by first | rfl | (go_simp; done) | (go_simp; rfl)) Tryz.isAgg35 Tryz.sizeOf35 ?_) | (go_at_call 23; (with_reducible refine (quireref15_Count.calls k _ _ l0_0 _ _ l0_1 _ _ l0_2 t107 _ ?side1 ?side2 ?side3 ?side4 ?side5 ?side6 A6.out).mono ?_); (case side1 => repeat (first | exact (Kd.C_below HR0_0.out HB.out) | (with_reducible refine Kd.C_alloc ?_ _) | (with_reducible refine Kd.C_drewN ?_ _) | (with_reducible refine Kd.C_drew ?_))); (case side2 => exact HC0_0.out); (case side3 => repeat (first | exact (Kd.C_below HR0_1.out HB.out) | (with_reducible refine Kd.C_alloc ?_ _) | (with_reducible refine Kd.C_drewN ?_ _) | (with_reducible refine Kd.C_drew ?_))); (case side4 => exact HC0_1.out); (case side5 => repeat (first | exact (Kd.C_below HR0_2.out HB.out) | (with_reducible refine Kd.C_alloc ?_ _) | (with_reducible refine Kd.C_drewN ?_ _) | (with_reducible refine Kd.C_drew ?_))); (case side6 => exact HC0_2.out); rintro e w9 ⟨rfl, hb⟩; have n0_ := Aside0.mk (blk_below (g := gb106) (o := .cells #[.slice A0_0 l0_0.length c0_0, .slice A0_1 l0_1.length c0_1, .slice A0_2 l0_2.length c0_2] 26 (0, 0)) (by (with_reducible repeat (first | refine blk_drewN ?_ _ | refine blk_drew ?_ | refine blk_alloc ?_ _)); exact BK106.out) hb); have n1_ := Aside0.mk (below_step (by repeat (first | (with_reducible first | exact HB.out | apply below_alloc | apply pw_below_drewN | apply below_drew1 | refine below_set ?_ GE106.out) | exact HB.out)) hb); clear BK106; clear HB; have BK106 := n0_; have HB := n1_; clear n0_ n1_; (try clear hb); (try clear hb2); (try clear hk); (try clear hi)))
        go_meet
        case rel => exact ⟨_, (true), (by first | rfl | (simp; done) | (simp [*]; done)), H', ⟨by first | omega | exact Nat.le_refl _⟩, ⟨by (with_reducible repeat (first | refine blk_drewN ?_ _ | refine blk_drew ?_ | refine blk_alloc ?_ _)); exact BK106.out⟩, ⟨by repeat (first | (with_reducible first | exact HB.out | apply below_alloc | apply pw_below_drewN | apply below_drew1 | refine below_set ?_ GE106.out) | exact HB.out)⟩⟩
      · rw [if_neg c7] at H
        have c7b0 : decide (4000 < t107) = false := decide_eq_false c7
        clear c7
        by_cases c10 : (l0_1.length : Int) > 128
        · rw [if_pos c10] at H
          have c10b0 : decide (128 < (l0_1.length : Int)) = true := decide_eq_true c10
          have c10b1 : decide (128 < l0_1.length) = true := decide_eq_true (by omega)
          clear c10
          have H' := Aside0.mk H
          clear H
          have hcz11_0 : w3.cell? ⟨gb106, 0, none⟩ = some (.slice A0_0 l0_0.length c0_0) := (blk_cell BK106.out 0).trans rfl
          have hcz11_1 : w3.cell? ⟨gb106, 1, none⟩ = some (.slice A0_1 l0_1.length c0_1) := (blk_cell BK106.out 1).trans rfl
          have hcz11_2 : w3.cell? ⟨gb106, 2, none⟩ = some (.slice A0_2 l0_2.length c0_2) := (blk_cell BK106.out 2).trans rfl
          have hfz11_0 := blk_frozen BK106.out 0
          have hfz11_1 := blk_frozen BK106.out 1
          have hfz11_2 := blk_frozen BK106.out 2
          go_wp2_with (first | ((with_reducible refine gate_load (t := 35) rfl ?_); (try (refine gate_guard (by first | rfl | (go_simp; done) | (go_simp; assumption)) ?_; dsimp only)); refine load_event20 rfl rfl (by first | rfl | (go_simp; done) | (go_simp; rfl)) Tryz.isAgg35 Tryz.sizeOf35 ?_) | (go_at_call 23; (with_reducible refine (quireref15_Count.calls k _ _ l0_0 _ _ l0_1 _ _ l0_2 t107 _ ?side1 ?side2 ?side3 ?side4 ?side5 ?side6 A6.out).mono ?_); (case side1 => repeat (first | exact (Kd.C_below HR0_0.out HB.out) | (with_reducible refine Kd.C_alloc ?_ _) | (with_reducible refine Kd.C_drewN ?_ _) | (with_reducible refine Kd.C_drew ?_))); (case side2 => exact HC0_0.out); (case side3 => repeat (first | exact (Kd.C_below HR0_1.out HB.out) | (with_reducible refine Kd.C_alloc ?_ _) | (with_reducible refine Kd.C_drewN ?_ _) | (with_reducible refine Kd.C_drew ?_))); (case side4 => exact HC0_1.out); (case side5 => repeat (first | exact (Kd.C_below HR0_2.out HB.out) | (with_reducible refine Kd.C_alloc ?_ _) | (with_reducible refine Kd.C_drewN ?_ _) | (with_reducible refine Kd.C_drew ?_))); (case side6 => exact HC0_2.out); rintro e w12 ⟨rfl, hb⟩; have n0_ := Aside0.mk (blk_below (g := gb106) (o := .cells #[.slice A0_0 l0_0.length c0_0, .slice A0_1 l0_1.length c0_1, .slice A0_2 l0_2.length c0_2] 26 (0, 0)) (by (with_reducible repeat (first | refine blk_drewN ?_ _ | refine blk_drew ?_ | refine blk_alloc ?_ _)); exact BK106.out) hb); have n1_ := Aside0.mk (below_step (by repeat (first | (with_reducible first | exact HB.out | apply below_alloc | apply pw_below_drewN | apply below_drew1 | refine below_set ?_ GE106.out) | exact HB.out)) hb); clear BK106; clear HB; have BK106 := n0_; have HB := n1_; clear n0_ n1_; (try clear hb); (try clear hb2); (try clear hk); (try clear hi); have hcz13_0 : w12.cell? ⟨gb106, 0, none⟩ = some (.slice A0_0 l0_0.length c0_0) := (blk_cell BK106.out 0).trans rfl; have hcz13_1 : w12.cell? ⟨gb106, 1, none⟩ = some (.slice A0_1 l0_1.length c0_1) := (blk_cell BK106.out 1).trans rfl; have hcz13_2 : w12.cell? ⟨gb106, 2, none⟩ = some (.slice A0_2 l0_2.length c0_2) := (blk_cell BK106.out 2).trans rfl; have hfz13_0 := blk_frozen BK106.out 0; have hfz13_1 := blk_frozen BK106.out 1; have hfz13_2 := blk_frozen BK106.out 2))
          go_meet
          case rel => exact ⟨_, (true), (by first | rfl | (simp; done) | (simp [*]; done)), H', ⟨by first | omega | exact Nat.le_refl _⟩, ⟨by (with_reducible repeat (first | refine blk_drewN ?_ _ | refine blk_drew ?_ | refine blk_alloc ?_ _)); exact BK106.out⟩, ⟨by repeat (first | (with_reducible first | exact HB.out | apply below_alloc | apply pw_below_drewN | apply below_drew1 | refine below_set ?_ GE106.out) | exact HB.out)⟩⟩
        · rw [if_neg c10] at H
          have c10b0 : decide (128 < (l0_1.length : Int)) = false := decide_eq_false c10
          have c10b1 : decide (128 < l0_1.length) = false := decide_eq_false (by omega)
          clear c10
          have H' := Aside0.mk H
          clear H
          have hcz14_0 : w3.cell? ⟨gb106, 0, none⟩ = some (.slice A0_0 l0_0.length c0_0) := (blk_cell BK106.out 0).trans rfl
          have hcz14_1 : w3.cell? ⟨gb106, 1, none⟩ = some (.slice A0_1 l0_1.length c0_1) := (blk_cell BK106.out 1).trans rfl
          have hcz14_2 : w3.cell? ⟨gb106, 2, none⟩ = some (.slice A0_2 l0_2.length c0_2) := (blk_cell BK106.out 2).trans rfl
          have hfz14_0 := blk_frozen BK106.out 0
          have hfz14_1 := blk_frozen BK106.out 1
          have hfz14_2 := blk_frozen BK106.out 2
          go_wp2_with (first | ((with_reducible refine gate_load (t := 35) rfl ?_); (try (refine gate_guard (by first | rfl | (go_simp; done) | (go_simp; assumption)) ?_; dsimp only)); refine load_event20 rfl rfl (by first | rfl | (go_simp; done) | (go_simp; rfl)) Tryz.isAgg35 Tryz.sizeOf35 ?_) | (go_at_call 23; (with_reducible refine (quireref15_Count.calls k _ _ l0_0 _ _ l0_1 _ _ l0_2 t107 _ ?side1 ?side2 ?side3 ?side4 ?side5 ?side6 A6.out).mono ?_); (case side1 => repeat (first | exact (Kd.C_below HR0_0.out HB.out) | (with_reducible refine Kd.C_alloc ?_ _) | (with_reducible refine Kd.C_drewN ?_ _) | (with_reducible refine Kd.C_drew ?_))); (case side2 => exact HC0_0.out); (case side3 => repeat (first | exact (Kd.C_below HR0_1.out HB.out) | (with_reducible refine Kd.C_alloc ?_ _) | (with_reducible refine Kd.C_drewN ?_ _) | (with_reducible refine Kd.C_drew ?_))); (case side4 => exact HC0_1.out); (case side5 => repeat (first | exact (Kd.C_below HR0_2.out HB.out) | (with_reducible refine Kd.C_alloc ?_ _) | (with_reducible refine Kd.C_drewN ?_ _) | (with_reducible refine Kd.C_drew ?_))); (case side6 => exact HC0_2.out); rintro e w15 ⟨rfl, hb⟩; have n0_ := Aside0.mk (blk_below (g := gb106) (o := .cells #[.slice A0_0 l0_0.length c0_0, .slice A0_1 l0_1.length c0_1, .slice A0_2 l0_2.length c0_2] 26 (0, 0)) (by (with_reducible repeat (first | refine blk_drewN ?_ _ | refine blk_drew ?_ | refine blk_alloc ?_ _)); exact BK106.out) hb); have n1_ := Aside0.mk (below_step (by repeat (first | (with_reducible first | exact HB.out | apply below_alloc | apply pw_below_drewN | apply below_drew1 | refine below_set ?_ GE106.out) | exact HB.out)) hb); clear BK106; clear HB; have BK106 := n0_; have HB := n1_; clear n0_ n1_; (try clear hb); (try clear hb2); (try clear hk); (try clear hi); have hcz16_0 : w15.cell? ⟨gb106, 0, none⟩ = some (.slice A0_0 l0_0.length c0_0) := (blk_cell BK106.out 0).trans rfl; have hcz16_1 : w15.cell? ⟨gb106, 1, none⟩ = some (.slice A0_1 l0_1.length c0_1) := (blk_cell BK106.out 1).trans rfl; have hcz16_2 : w15.cell? ⟨gb106, 2, none⟩ = some (.slice A0_2 l0_2.length c0_2) := (blk_cell BK106.out 2).trans rfl; have hfz16_0 := blk_frozen BK106.out 0; have hfz16_1 := blk_frozen BK106.out 1; have hfz16_2 := blk_frozen BK106.out 2))
          go_meet
          case rel => exact ⟨_, (decide ((l0_2.length : Int) > 128)), (by first | rfl | (simp; done) | (simp [*]; done)), H', ⟨by first | omega | exact Nat.le_refl _⟩, ⟨by (with_reducible repeat (first | refine blk_drewN ?_ _ | refine blk_drew ?_ | refine blk_alloc ?_ _)); exact BK106.out⟩, ⟨by repeat (first | (with_reducible first | exact HB.out | apply below_alloc | apply pw_below_drewN | apply below_drew1 | refine below_set ?_ GE106.out) | exact HB.out)⟩⟩
  case rest =>
    clear HC2
    try clear c1
    try clear p2
    try clear c4
    try clear c4b0
    try clear c4b1
    try clear c7
    try clear c7b0
    try clear c9
    try clear c10
    try clear c10b0
    try clear c10b1
    try clear hcz11_0
    try clear hcz11_1
    try clear hcz11_2
    try clear hcz13_0
    try clear hcz13_1
    try clear hcz13_2
    try clear hcz14_0
    try clear hcz14_1
    try clear hcz14_2
    try clear hcz16_0
    try clear hcz16_1
    try clear hcz16_2
    try clear hcz5_0
    try clear hcz5_1
    try clear hcz5_2
    try clear hcz8_0
    try clear hcz8_1
    try clear hcz8_2
    try clear hfz11_0
    try clear hfz11_1
    try clear hfz11_2
    try clear hfz13_0
    try clear hfz13_1
    try clear hfz13_2
    try clear hfz14_0
    try clear hfz14_1
    try clear hfz14_2
    try clear hfz16_0
    try clear hfz16_1
    try clear hfz16_2
    try clear hfz5_0
    try clear hfz5_1
    try clear hfz5_2
    try clear hfz8_0
    try clear hfz8_1
    try clear hfz8_2
    obtain ⟨kq, x26_1, rfl, HA, HJ1, BK106, HB⟩ := hcut
    cases kq with
    | zero => exact absurd HA.out (by simp [quirelaw15_Small.j0])
    | succ kj1 =>
      have H := HA.out
      clear HA
      simp only [quirelaw15_Small.j0] at H
      by_cases c17 : x26_1 = true
      · subst c17
        have H1 : (some false) = some r := by rw [if_pos rfl] at H; exact H
        clear H
        have H := H1
        clear H1
        obtain rfl := Option.some.inj H
        go_wp2_with (first | ((with_reducible refine gate_load (t := 35) rfl ?_); (try (refine gate_guard (by first | rfl | (go_simp; done) | (go_simp; assumption)) ?_; dsimp only)); refine load_event20 rfl rfl (by first | rfl | (go_simp; done) | (go_simp; rfl)) Tryz.isAgg35 Tryz.sizeOf35 ?_))
        go_ret
        exact ⟨by first | rfl | (simp [errW_none, errW_some] <;> rfl) | (simp [*, errW_none, errW_some] <;> rfl), by repeat (first | (with_reducible first | exact HB.out | apply below_alloc | apply pw_below_drewN | apply below_drew1 | refine below_set ?_ GE106.out) | exact HB.out)⟩
      · replace c17 := Bool.eq_false_iff.mpr c17
        subst c17
        have H1 : (quirelaw15_Small.l0 kj1 0 l0_0 l0_1 l0_2) = some r := by rw [if_neg (show ¬ (false = true) by decide)] at H; exact H
        clear H
        have H := H1
        clear H1
        have H' := Aside0.mk H
        clear H
        go_wp2_with (first | ((with_reducible refine gate_load (t := 35) rfl ?_); (try (refine gate_guard (by first | rfl | (go_simp; done) | (go_simp; assumption)) ?_; dsimp only)); refine load_event20 rfl rfl (by first | rfl | (go_simp; done) | (go_simp; rfl)) Tryz.isAgg35 Tryz.sizeOf35 ?_))
        go_loopg [3] kj1 (fun kq v3 w' => ∃ (x3_2 : Int), v3 = .int .i64 x3_2 ∧ Aside0 (quirelaw15_Small.l0 kq x3_2 l0_0 l0_1 l0_2 = some r) ∧ Aside0 (kq ≤ kj1) ∧ Aside0 (w'.heap[gb106]? = some (.cells #[(.slice A0_0 l0_0.length c0_0), (.slice A0_1 l0_1.length c0_1), (.slice A0_2 l0_2.length c0_2)] 26 (0, 0))) ∧ Aside0 (Below w.heap.size w w'))
        case atStart => exact ⟨(0), (by first | rfl | (simp; done) | (simp [*]; done)), H', ⟨Nat.le_refl _⟩, ⟨by (with_reducible repeat (first | refine blk_drewN ?_ _ | refine blk_drew ?_ | refine blk_alloc ?_ _)); exact BK106.out⟩, ⟨by repeat (first | (with_reducible first | exact HB.out | apply below_alloc | apply pw_below_drewN | apply below_drew1 | refine below_set ?_ GE106.out) | exact HB.out)⟩⟩
        case round =>
          clear H'
          try clear c1
          try clear p2
          try clear c4
          try clear c4b0
          try clear c4b1
          try clear c7
          try clear c7b0
          try clear c9
          try clear c10
          try clear c10b0
          try clear c10b1
          try clear c17
          try clear hcz11_0
          try clear hcz11_1
          try clear hcz11_2
          try clear hcz13_0
          try clear hcz13_1
          try clear hcz13_2
          try clear hcz14_0
          try clear hcz14_1
          try clear hcz14_2
          try clear hcz16_0
          try clear hcz16_1
          try clear hcz16_2
          try clear hcz5_0
          try clear hcz5_1
          try clear hcz5_2
          try clear hcz8_0
          try clear hcz8_1
          try clear hcz8_2
          try clear hfz11_0
          try clear hfz11_1
          try clear hfz11_2
          try clear hfz13_0
          try clear hfz13_1
          try clear hfz13_2
          try clear hfz14_0
          try clear hfz14_1
          try clear hfz14_2
          try clear hfz16_0
          try clear hfz16_1
          try clear hfz16_2
          try clear hfz5_0
          try clear hfz5_1
          try clear hfz5_2
          try clear hfz8_0
          try clear hfz8_1
          try clear hfz8_2
          try clear p2
          obtain ⟨x3_2, rfl, HA, HK2, BK106, HB⟩ := hrel
          cases gk with
          | zero => exact absurd HA.out (by simp [quirelaw15_Small.l0])
          | succ k2 =>
            have H := HA.out
            clear HA
            simp only [quirelaw15_Small.l0] at H
            by_cases c18 : x3_2 < (l0_0.length : Int)
            · rw [if_pos c18] at H
              have c18b0 : decide (x3_2 < (l0_0.length : Int)) = true := decide_eq_true c18
              clear c18
              have H' := Aside0.mk H
              clear H
              have hcz19_0 : wr.cell? ⟨gb106, 0, none⟩ = some (.slice A0_0 l0_0.length c0_0) := (blk_cell BK106.out 0).trans rfl
              have hcz19_1 : wr.cell? ⟨gb106, 1, none⟩ = some (.slice A0_1 l0_1.length c0_1) := (blk_cell BK106.out 1).trans rfl
              have hcz19_2 : wr.cell? ⟨gb106, 2, none⟩ = some (.slice A0_2 l0_2.length c0_2) := (blk_cell BK106.out 2).trans rfl
              have hfz19_0 := blk_frozen BK106.out 0
              have hfz19_1 := blk_frozen BK106.out 1
              have hfz19_2 := blk_frozen BK106.out 2
              go_wp2_with (first | ((with_reducible refine gate_load (t := 35) rfl ?_); (try (refine gate_guard (by first | rfl | (go_simp; done) | (go_simp; assumption)) ?_; dsimp only)); refine load_event20 rfl rfl (by first | rfl | (go_simp; done) | (go_simp; rfl)) Tryz.isAgg35 Tryz.sizeOf35 ?_))
              go_loopg [4] k2 (fun kq v4 w' => ∃ (x4_3 : Int), v4 = .int .i64 x4_3 ∧ Aside0 (quirelaw15_Small.l1 kq x3_2 x4_3 l0_0 l0_1 l0_2 = some r) ∧ Aside0 (kq ≤ k2) ∧ Aside0 (w'.heap[gb106]? = some (.cells #[(.slice A0_0 l0_0.length c0_0), (.slice A0_1 l0_1.length c0_1), (.slice A0_2 l0_2.length c0_2)] 26 (0, 0))) ∧ Aside0 (Below w.heap.size w w'))
              case atStart => exact ⟨(0), (by first | rfl | (simp; done) | (simp [*]; done)), H', ⟨Nat.le_refl _⟩, ⟨by (with_reducible repeat (first | refine blk_drewN ?_ _ | refine blk_drew ?_ | refine blk_alloc ?_ _)); exact BK106.out⟩, ⟨by repeat (first | (with_reducible first | exact HB.out | apply below_alloc | apply pw_below_drewN | apply below_drew1 | refine below_set ?_ GE106.out) | exact HB.out)⟩⟩
              case round =>
                clear H'
                try clear c1
                try clear p2
                try clear c4
                try clear c4b0
                try clear c4b1
                try clear c7
                try clear c7b0
                try clear c9
                try clear c10
                try clear c10b0
                try clear c10b1
                try clear c17
                try clear c18
                try clear c18b0
                try clear hcz11_0
                try clear hcz11_1
                try clear hcz11_2
                try clear hcz13_0
                try clear hcz13_1
                try clear hcz13_2
                try clear hcz14_0
                try clear hcz14_1
                try clear hcz14_2
                try clear hcz16_0
                try clear hcz16_1
                try clear hcz16_2
                try clear hcz19_0
                try clear hcz19_1
                try clear hcz19_2
                try clear hcz5_0
                try clear hcz5_1
                try clear hcz5_2
                try clear hcz8_0
                try clear hcz8_1
                try clear hcz8_2
                try clear hfz11_0
                try clear hfz11_1
                try clear hfz11_2
                try clear hfz13_0
                try clear hfz13_1
                try clear hfz13_2
                try clear hfz14_0
                try clear hfz14_1
                try clear hfz14_2
                try clear hfz16_0
                try clear hfz16_1
                try clear hfz16_2
                try clear hfz19_0
                try clear hfz19_1
                try clear hfz19_2
                try clear hfz5_0
                try clear hfz5_1
                try clear hfz5_2
                try clear hfz8_0
                try clear hfz8_1
                try clear hfz8_2
                try clear p2
                obtain ⟨x4_3, rfl, HA, HK3, BK106, HB⟩ := hrel
                cases gk with
                | zero => exact absurd HA.out (by simp [quirelaw15_Small.l1])
                | succ k3 =>
                  have H := HA.out
                  clear HA
                  simp only [quirelaw15_Small.l1] at H
                  by_cases c20 : 0 ≤ x3_2
                  · rw [if_pos c20] at H
                    have c20b0 : decide (0 ≤ x3_2) = true := decide_eq_true c20
                    clear c20
                    by_cases c21 : x3_2 < (l0_0.length : Int)
                    · rw [if_pos c21] at H
                      have c21b0 : decide (x3_2 < (l0_0.length : Int)) = true := decide_eq_true c21
                      clear c21
                      by_cases c22 : x4_3 < (((rd_T65 l0_0 x3_2).f1).length : Int)
                      · rw [if_pos c22] at H
                        have c22b0 : decide (x4_3 < (((rd_T65 l0_0 x3_2).f1).length : Int)) = true := decide_eq_true c22
                        clear c22
                        by_cases c23 : 0 ≤ x4_3
                        · rw [if_pos c23] at H
                          have c23b0 : decide (0 ≤ x4_3) = true := decide_eq_true c23
                          clear c23
                          replace H := Option.bind_eq_some_iff.mp H
                          obtain ⟨t111, A240, H⟩ := H
                          replace H : (if t111 > 100 then (some false) else (quirelaw15_Small.l1 k3 x3_2 (wrap64 (x4_3 + 1)) l0_0 l0_1 l0_2)) = some r := H
                          have A24 := Aside0.mk A240
                          clear A240
                          by_cases c25 : t111 > 100
                          · rw [if_pos c25] at H
                            have c25b0 : decide (100 < t111) = true := decide_eq_true c25
                            clear c25
                            obtain rfl := Option.some.inj H
                            have hcz26_0 : wr.cell? ⟨gb106, 0, none⟩ = some (.slice A0_0 l0_0.length c0_0) := (blk_cell BK106.out 0).trans rfl
                            have hcz26_1 : wr.cell? ⟨gb106, 1, none⟩ = some (.slice A0_1 l0_1.length c0_1) := (blk_cell BK106.out 1).trans rfl
                            have hcz26_2 : wr.cell? ⟨gb106, 2, none⟩ = some (.slice A0_2 l0_2.length c0_2) := (blk_cell BK106.out 2).trans rfl
                            have hfz26_0 := blk_frozen BK106.out 0
                            have hfz26_1 := blk_frozen BK106.out 1
                            have hfz26_2 := blk_frozen BK106.out 2
                            have p108 : 0 ≤ (x3_2 : Int) := of_decide_eq_true (by first | (with_reducible assumption) | assumption)
                            have q108 : x3_2 < (l0_0.length : Int) := of_decide_eq_true (by first | (with_reducible assumption) | assumption)
                            obtain ⟨ad108, A108_1, c108_1, e108, hx108_0, hx108_1, hl108_1, hi108_1⟩ := at_T65 HR0_0.out x3_2 p108 q108
                            cases e108
                            replace hx108_0 := (HB.out.cell (World.block_lt_of_cell? w _ hx108_0)).trans hx108_0
                            replace hx108_1 := (HB.out.cell (World.block_lt_of_cell? w _ hx108_1)).trans hx108_1
                            have HR108_1 := Aside0.mk hi108_1
                            have HC108_1 := Aside0.mk hl108_1
                            clear hi108_1 hl108_1
                            replace p108 := eq_true p108
                            replace q108 := eq_true q108
                            have p109 : 0 ≤ (x3_2 : Int) := of_decide_eq_true (by first | (with_reducible assumption) | assumption)
                            have q109 : x3_2 < (l0_0.length : Int) := of_decide_eq_true (by first | (with_reducible assumption) | assumption)
                            obtain ⟨ad109, A109_1, c109_1, e109, hx109_0, hx109_1, hl109_1, hi109_1⟩ := at_T65 HR0_0.out x3_2 p109 q109
                            obtain rfl : ad108 = ad109 := (by injection e109)
                            replace hx109_0 := (HB.out.cell (World.block_lt_of_cell? w _ hx109_0)).trans hx109_0
                            replace hx109_1 := (HB.out.cell (World.block_lt_of_cell? w _ hx109_1)).trans hx109_1
                            have HR109_1 := Aside0.mk hi109_1
                            have HC109_1 := Aside0.mk hl109_1
                            clear hi109_1 hl109_1
                            replace p109 := eq_true p109
                            replace q109 := eq_true q109
                            have ea_ := Option.some.inj (hx108_1.symm.trans hx109_1)
                            injection ea_ with ea_ en_ ec_
                            subst ea_
                            subst ec_
                            clear en_
                            have p110 : 0 ≤ (x4_3 : Int) := of_decide_eq_true (by first | (with_reducible assumption) | assumption)
                            have q110 : x4_3 < (((rd_T65 l0_0 x3_2).f1).length : Int) := of_decide_eq_true (by first | (with_reducible assumption) | assumption)
                            obtain ⟨ad110, A110_28, c110_28, e110, hx110_0, hx110_1, hx110_2, hx110_3, hx110_4, hx110_5, hx110_6, hx110_7, hx110_8, hx110_9, hx110_10, hx110_11, hx110_12, hx110_13, hx110_14, hx110_15, hx110_16, hx110_17, hx110_18, hx110_19, hx110_20, hx110_21, hx110_22, hx110_23, hx110_24, hx110_25, hx110_26, hx110_27, hx110_28, hx110_29, hl110_28, hi110_28⟩ := at_T39 HR109_1.out x4_3 p110 q110
                            cases e110
                            replace hx110_0 := (HB.out.cell (World.block_lt_of_cell? w _ hx110_0)).trans hx110_0
                            replace hx110_1 := (HB.out.cell (World.block_lt_of_cell? w _ hx110_1)).trans hx110_1
                            replace hx110_2 := (HB.out.cell (World.block_lt_of_cell? w _ hx110_2)).trans hx110_2
                            replace hx110_3 := (HB.out.cell (World.block_lt_of_cell? w _ hx110_3)).trans hx110_3
                            replace hx110_4 := (HB.out.cell (World.block_lt_of_cell? w _ hx110_4)).trans hx110_4
                            replace hx110_5 := (HB.out.cell (World.block_lt_of_cell? w _ hx110_5)).trans hx110_5
                            replace hx110_6 := (HB.out.cell (World.block_lt_of_cell? w _ hx110_6)).trans hx110_6
                            replace hx110_7 := (HB.out.cell (World.block_lt_of_cell? w _ hx110_7)).trans hx110_7
                            replace hx110_8 := (HB.out.cell (World.block_lt_of_cell? w _ hx110_8)).trans hx110_8
                            replace hx110_9 := (HB.out.cell (World.block_lt_of_cell? w _ hx110_9)).trans hx110_9
                            replace hx110_10 := (HB.out.cell (World.block_lt_of_cell? w _ hx110_10)).trans hx110_10
                            replace hx110_11 := (HB.out.cell (World.block_lt_of_cell? w _ hx110_11)).trans hx110_11
                            replace hx110_12 := (HB.out.cell (World.block_lt_of_cell? w _ hx110_12)).trans hx110_12
                            replace hx110_13 := (HB.out.cell (World.block_lt_of_cell? w _ hx110_13)).trans hx110_13
                            replace hx110_14 := (HB.out.cell (World.block_lt_of_cell? w _ hx110_14)).trans hx110_14
                            replace hx110_15 := (HB.out.cell (World.block_lt_of_cell? w _ hx110_15)).trans hx110_15
                            replace hx110_16 := (HB.out.cell (World.block_lt_of_cell? w _ hx110_16)).trans hx110_16
                            replace hx110_17 := (HB.out.cell (World.block_lt_of_cell? w _ hx110_17)).trans hx110_17
                            replace hx110_18 := (HB.out.cell (World.block_lt_of_cell? w _ hx110_18)).trans hx110_18
                            replace hx110_19 := (HB.out.cell (World.block_lt_of_cell? w _ hx110_19)).trans hx110_19
                            replace hx110_20 := (HB.out.cell (World.block_lt_of_cell? w _ hx110_20)).trans hx110_20
                            replace hx110_21 := (HB.out.cell (World.block_lt_of_cell? w _ hx110_21)).trans hx110_21
                            replace hx110_22 := (HB.out.cell (World.block_lt_of_cell? w _ hx110_22)).trans hx110_22
                            replace hx110_23 := (HB.out.cell (World.block_lt_of_cell? w _ hx110_23)).trans hx110_23
                            replace hx110_24 := (HB.out.cell (World.block_lt_of_cell? w _ hx110_24)).trans hx110_24
                            replace hx110_25 := (HB.out.cell (World.block_lt_of_cell? w _ hx110_25)).trans hx110_25
                            replace hx110_26 := (HB.out.cell (World.block_lt_of_cell? w _ hx110_26)).trans hx110_26
                            replace hx110_27 := (HB.out.cell (World.block_lt_of_cell? w _ hx110_27)).trans hx110_27
                            replace hx110_28 := (HB.out.cell (World.block_lt_of_cell? w _ hx110_28)).trans hx110_28
                            replace hx110_29 := (HB.out.cell (World.block_lt_of_cell? w _ hx110_29)).trans hx110_29
                            have HR110_28 := Aside0.mk hi110_28
                            have HC110_28 := Aside0.mk hl110_28
                            clear hi110_28 hl110_28
                            replace p110 := eq_true p110
                            replace q110 := eq_true q110
                            go_wp2_with (first | ((with_reducible refine gate_load (t := 35) rfl ?_); (try (refine gate_guard (by first | rfl | (go_simp; done) | (go_simp; assumption)) ?_; dsimp only)); refine load_event20 rfl rfl (by first | rfl | (go_simp; done) | (go_simp; rfl)) Tryz.isAgg35 Tryz.sizeOf35 ?_) | ((with_reducible refine gate_callee (f := 11) rfl ?_); refine goesL_ (some 56) rfl rfl Tryz.func11 (by kernel_rfl) rfl #[.agg #[.int .i64 ((rd_T39 ((rd_T65 l0_0 x3_2).f1) x4_3).f2.f2.f0), .int .i64 ((rd_T39 ((rd_T65 l0_0 x3_2).f1) x4_3).f2.f2.f1.f0), .int .i64 ((rd_T39 ((rd_T65 l0_0 x3_2).f1) x4_3).f2.f2.f1.f1.f0), .int .i64 ((rd_T39 ((rd_T65 l0_0 x3_2).f1) x4_3).f2.f2.f1.f1.f1), .string ((rd_T39 ((rd_T65 l0_0 x3_2).f1) x4_3).f2.f2.f1.f2), .bool ((rd_T39 ((rd_T65 l0_0 x3_2).f1) x4_3).f2.f2.f1.f3), .int .i64 ((rd_T39 ((rd_T65 l0_0 x3_2).f1) x4_3).f2.f2.f1.f4), .string ((rd_T39 ((rd_T65 l0_0 x3_2).f1) x4_3).f2.f2.f2.f0), .int .i64 ((rd_T39 ((rd_T65 l0_0 x3_2).f1) x4_3).f2.f2.f2.f1), .int .i64 ((rd_T39 ((rd_T65 l0_0 x3_2).f1) x4_3).f2.f2.f2.f2), .bool ((rd_T39 ((rd_T65 l0_0 x3_2).f1) x4_3).f2.f2.f2.f3), .bool ((rd_T39 ((rd_T65 l0_0 x3_2).f1) x4_3).f2.f2.f2.f4), .string ((rd_T39 ((rd_T65 l0_0 x3_2).f1) x4_3).f2.f2.f3.f0), .int .i64 ((rd_T39 ((rd_T65 l0_0 x3_2).f1) x4_3).f2.f2.f3.f1), .int .i64 ((rd_T39 ((rd_T65 l0_0 x3_2).f1) x4_3).f2.f2.f3.f2), .bool ((rd_T39 ((rd_T65 l0_0 x3_2).f1) x4_3).f2.f2.f3.f3), .bool ((rd_T39 ((rd_T65 l0_0 x3_2).f1) x4_3).f2.f2.f3.f4), .string ((rd_T39 ((rd_T65 l0_0 x3_2).f1) x4_3).f2.f2.f4), .int .i64 ((rd_T39 ((rd_T65 l0_0 x3_2).f1) x4_3).f2.f2.f5), .slice A110_28 ((rd_T39 ((rd_T65 l0_0 x3_2).f1) x4_3).f2.f2.f6).length c110_28]] rfl (by (try simp only [List.map_toArray, List.map_cons, List.map_nil]); first | done | rfl | (simp only [List.length_drop, List.length_take]; rfl)) ?_; (with_reducible refine (quireref12_Depth.calls k3 ((rd_T39 ((rd_T65 l0_0 x3_2).f1) x4_3).f2.f2.f0) ((rd_T39 ((rd_T65 l0_0 x3_2).f1) x4_3).f2.f2.f1.f0) ((rd_T39 ((rd_T65 l0_0 x3_2).f1) x4_3).f2.f2.f1.f1.f0) ((rd_T39 ((rd_T65 l0_0 x3_2).f1) x4_3).f2.f2.f1.f1.f1) ((rd_T39 ((rd_T65 l0_0 x3_2).f1) x4_3).f2.f2.f1.f2) ((rd_T39 ((rd_T65 l0_0 x3_2).f1) x4_3).f2.f2.f1.f3) ((rd_T39 ((rd_T65 l0_0 x3_2).f1) x4_3).f2.f2.f1.f4) ((rd_T39 ((rd_T65 l0_0 x3_2).f1) x4_3).f2.f2.f2.f0) ((rd_T39 ((rd_T65 l0_0 x3_2).f1) x4_3).f2.f2.f2.f1) ((rd_T39 ((rd_T65 l0_0 x3_2).f1) x4_3).f2.f2.f2.f2) ((rd_T39 ((rd_T65 l0_0 x3_2).f1) x4_3).f2.f2.f2.f3) ((rd_T39 ((rd_T65 l0_0 x3_2).f1) x4_3).f2.f2.f2.f4) ((rd_T39 ((rd_T65 l0_0 x3_2).f1) x4_3).f2.f2.f3.f0) ((rd_T39 ((rd_T65 l0_0 x3_2).f1) x4_3).f2.f2.f3.f1) ((rd_T39 ((rd_T65 l0_0 x3_2).f1) x4_3).f2.f2.f3.f2) ((rd_T39 ((rd_T65 l0_0 x3_2).f1) x4_3).f2.f2.f3.f3) ((rd_T39 ((rd_T65 l0_0 x3_2).f1) x4_3).f2.f2.f3.f4) ((rd_T39 ((rd_T65 l0_0 x3_2).f1) x4_3).f2.f2.f4) ((rd_T39 ((rd_T65 l0_0 x3_2).f1) x4_3).f2.f2.f5) _ _ ((rd_T39 ((rd_T65 l0_0 x3_2).f1) x4_3).f2.f2.f6) t111 _ ?side1 ?side2 A24.out).mono ?_); (case side1 => repeat (first | exact (Kd.C_below HR110_28.out HB.out) | (with_reducible refine Kd.C_alloc ?_ _) | (with_reducible refine Kd.C_drewN ?_ _) | (with_reducible refine Kd.C_drew ?_))); (case side2 => exact HC110_28.out); rintro e w27 ⟨rfl, hb⟩; refine ⟨_, rfl, ?_⟩; have n0_ := Aside0.mk (blk_below (g := gb106) (o := .cells #[.slice (some ad108) l0_0.length c0_0, .slice A0_1 l0_1.length c0_1, .slice A0_2 l0_2.length c0_2] 26 (0, 0)) (by (with_reducible repeat (first | refine blk_drewN ?_ _ | refine blk_drew ?_ | refine blk_alloc ?_ _)); exact BK106.out) hb); have n1_ := Aside0.mk (below_step (by repeat (first | (with_reducible first | exact HB.out | apply below_alloc | apply pw_below_drewN | apply below_drew1 | refine below_set ?_ GE106.out) | exact HB.out)) hb); clear BK106; clear HB; have BK106 := n0_; have HB := n1_; clear n0_ n1_; (try clear hb); (try clear hb2); (try clear hk); (try clear hi)))
                            go_ret
                            exact ⟨by first | rfl | (simp [errW_none, errW_some] <;> rfl) | (simp [*, errW_none, errW_some] <;> rfl), by repeat (first | (with_reducible first | exact HB.out | apply below_alloc | apply pw_below_drewN | apply below_drew1 | refine below_set ?_ GE106.out) | exact HB.out)⟩
                          · rw [if_neg c25] at H
                            have c25b0 : decide (100 < t111) = false := decide_eq_false c25
                            clear c25
                            have H' := Aside0.mk H
                            clear H
                            have hcz28_0 : wr.cell? ⟨gb106, 0, none⟩ = some (.slice A0_0 l0_0.length c0_0) := (blk_cell BK106.out 0).trans rfl
                            have hcz28_1 : wr.cell? ⟨gb106, 1, none⟩ = some (.slice A0_1 l0_1.length c0_1) := (blk_cell BK106.out 1).trans rfl
                            have hcz28_2 : wr.cell? ⟨gb106, 2, none⟩ = some (.slice A0_2 l0_2.length c0_2) := (blk_cell BK106.out 2).trans rfl
                            have hfz28_0 := blk_frozen BK106.out 0
                            have hfz28_1 := blk_frozen BK106.out 1
                            have hfz28_2 := blk_frozen BK106.out 2
                            have p108 : 0 ≤ (x3_2 : Int) := of_decide_eq_true (by first | (with_reducible assumption) | assumption)
                            have q108 : x3_2 < (l0_0.length : Int) := of_decide_eq_true (by first | (with_reducible assumption) | assumption)
                            obtain ⟨ad108, A108_1, c108_1, e108, hx108_0, hx108_1, hl108_1, hi108_1⟩ := at_T65 HR0_0.out x3_2 p108 q108
                            cases e108
                            replace hx108_0 := (HB.out.cell (World.block_lt_of_cell? w _ hx108_0)).trans hx108_0
                            replace hx108_1 := (HB.out.cell (World.block_lt_of_cell? w _ hx108_1)).trans hx108_1
                            have HR108_1 := Aside0.mk hi108_1
                            have HC108_1 := Aside0.mk hl108_1
                            clear hi108_1 hl108_1
                            replace p108 := eq_true p108
                            replace q108 := eq_true q108
                            have p109 : 0 ≤ (x3_2 : Int) := of_decide_eq_true (by first | (with_reducible assumption) | assumption)
                            have q109 : x3_2 < (l0_0.length : Int) := of_decide_eq_true (by first | (with_reducible assumption) | assumption)
                            obtain ⟨ad109, A109_1, c109_1, e109, hx109_0, hx109_1, hl109_1, hi109_1⟩ := at_T65 HR0_0.out x3_2 p109 q109
                            obtain rfl : ad108 = ad109 := (by injection e109)
                            replace hx109_0 := (HB.out.cell (World.block_lt_of_cell? w _ hx109_0)).trans hx109_0
                            replace hx109_1 := (HB.out.cell (World.block_lt_of_cell? w _ hx109_1)).trans hx109_1
                            have HR109_1 := Aside0.mk hi109_1
                            have HC109_1 := Aside0.mk hl109_1
                            clear hi109_1 hl109_1
                            replace p109 := eq_true p109
                            replace q109 := eq_true q109
                            have ea_ := Option.some.inj (hx108_1.symm.trans hx109_1)
                            injection ea_ with ea_ en_ ec_
                            subst ea_
                            subst ec_
                            clear en_
                            have p110 : 0 ≤ (x4_3 : Int) := of_decide_eq_true (by first | (with_reducible assumption) | assumption)
                            have q110 : x4_3 < (((rd_T65 l0_0 x3_2).f1).length : Int) := of_decide_eq_true (by first | (with_reducible assumption) | assumption)
                            obtain ⟨ad110, A110_28, c110_28, e110, hx110_0, hx110_1, hx110_2, hx110_3, hx110_4, hx110_5, hx110_6, hx110_7, hx110_8, hx110_9, hx110_10, hx110_11, hx110_12, hx110_13, hx110_14, hx110_15, hx110_16, hx110_17, hx110_18, hx110_19, hx110_20, hx110_21, hx110_22, hx110_23, hx110_24, hx110_25, hx110_26, hx110_27, hx110_28, hx110_29, hl110_28, hi110_28⟩ := at_T39 HR109_1.out x4_3 p110 q110
                            cases e110
                            replace hx110_0 := (HB.out.cell (World.block_lt_of_cell? w _ hx110_0)).trans hx110_0
                            replace hx110_1 := (HB.out.cell (World.block_lt_of_cell? w _ hx110_1)).trans hx110_1
                            replace hx110_2 := (HB.out.cell (World.block_lt_of_cell? w _ hx110_2)).trans hx110_2
                            replace hx110_3 := (HB.out.cell (World.block_lt_of_cell? w _ hx110_3)).trans hx110_3
                            replace hx110_4 := (HB.out.cell (World.block_lt_of_cell? w _ hx110_4)).trans hx110_4
                            replace hx110_5 := (HB.out.cell (World.block_lt_of_cell? w _ hx110_5)).trans hx110_5
                            replace hx110_6 := (HB.out.cell (World.block_lt_of_cell? w _ hx110_6)).trans hx110_6
                            replace hx110_7 := (HB.out.cell (World.block_lt_of_cell? w _ hx110_7)).trans hx110_7
                            replace hx110_8 := (HB.out.cell (World.block_lt_of_cell? w _ hx110_8)).trans hx110_8
                            replace hx110_9 := (HB.out.cell (World.block_lt_of_cell? w _ hx110_9)).trans hx110_9
                            replace hx110_10 := (HB.out.cell (World.block_lt_of_cell? w _ hx110_10)).trans hx110_10
                            replace hx110_11 := (HB.out.cell (World.block_lt_of_cell? w _ hx110_11)).trans hx110_11
                            replace hx110_12 := (HB.out.cell (World.block_lt_of_cell? w _ hx110_12)).trans hx110_12
                            replace hx110_13 := (HB.out.cell (World.block_lt_of_cell? w _ hx110_13)).trans hx110_13
                            replace hx110_14 := (HB.out.cell (World.block_lt_of_cell? w _ hx110_14)).trans hx110_14
                            replace hx110_15 := (HB.out.cell (World.block_lt_of_cell? w _ hx110_15)).trans hx110_15
                            replace hx110_16 := (HB.out.cell (World.block_lt_of_cell? w _ hx110_16)).trans hx110_16
                            replace hx110_17 := (HB.out.cell (World.block_lt_of_cell? w _ hx110_17)).trans hx110_17
                            replace hx110_18 := (HB.out.cell (World.block_lt_of_cell? w _ hx110_18)).trans hx110_18
                            replace hx110_19 := (HB.out.cell (World.block_lt_of_cell? w _ hx110_19)).trans hx110_19
                            replace hx110_20 := (HB.out.cell (World.block_lt_of_cell? w _ hx110_20)).trans hx110_20
                            replace hx110_21 := (HB.out.cell (World.block_lt_of_cell? w _ hx110_21)).trans hx110_21
                            replace hx110_22 := (HB.out.cell (World.block_lt_of_cell? w _ hx110_22)).trans hx110_22
                            replace hx110_23 := (HB.out.cell (World.block_lt_of_cell? w _ hx110_23)).trans hx110_23
                            replace hx110_24 := (HB.out.cell (World.block_lt_of_cell? w _ hx110_24)).trans hx110_24
                            replace hx110_25 := (HB.out.cell (World.block_lt_of_cell? w _ hx110_25)).trans hx110_25
                            replace hx110_26 := (HB.out.cell (World.block_lt_of_cell? w _ hx110_26)).trans hx110_26
                            replace hx110_27 := (HB.out.cell (World.block_lt_of_cell? w _ hx110_27)).trans hx110_27
                            replace hx110_28 := (HB.out.cell (World.block_lt_of_cell? w _ hx110_28)).trans hx110_28
                            replace hx110_29 := (HB.out.cell (World.block_lt_of_cell? w _ hx110_29)).trans hx110_29
                            have HR110_28 := Aside0.mk hi110_28
                            have HC110_28 := Aside0.mk hl110_28
                            clear hi110_28 hl110_28
                            replace p110 := eq_true p110
                            replace q110 := eq_true q110
                            go_wp2_with (first | ((with_reducible refine gate_load (t := 35) rfl ?_); (try (refine gate_guard (by first | rfl | (go_simp; done) | (go_simp; assumption)) ?_; dsimp only)); refine load_event20 rfl rfl (by first | rfl | (go_simp; done) | (go_simp; rfl)) Tryz.isAgg35 Tryz.sizeOf35 ?_) | ((with_reducible refine gate_callee (f := 11) rfl ?_); refine goesL_ (some 56) rfl rfl Tryz.func11 (by kernel_rfl) rfl #[.agg #[.int .i64 ((rd_T39 ((rd_T65 l0_0 x3_2).f1) x4_3).f2.f2.f0), .int .i64 ((rd_T39 ((rd_T65 l0_0 x3_2).f1) x4_3).f2.f2.f1.f0), .int .i64 ((rd_T39 ((rd_T65 l0_0 x3_2).f1) x4_3).f2.f2.f1.f1.f0), .int .i64 ((rd_T39 ((rd_T65 l0_0 x3_2).f1) x4_3).f2.f2.f1.f1.f1), .string ((rd_T39 ((rd_T65 l0_0 x3_2).f1) x4_3).f2.f2.f1.f2), .bool ((rd_T39 ((rd_T65 l0_0 x3_2).f1) x4_3).f2.f2.f1.f3), .int .i64 ((rd_T39 ((rd_T65 l0_0 x3_2).f1) x4_3).f2.f2.f1.f4), .string ((rd_T39 ((rd_T65 l0_0 x3_2).f1) x4_3).f2.f2.f2.f0), .int .i64 ((rd_T39 ((rd_T65 l0_0 x3_2).f1) x4_3).f2.f2.f2.f1), .int .i64 ((rd_T39 ((rd_T65 l0_0 x3_2).f1) x4_3).f2.f2.f2.f2), .bool ((rd_T39 ((rd_T65 l0_0 x3_2).f1) x4_3).f2.f2.f2.f3), .bool ((rd_T39 ((rd_T65 l0_0 x3_2).f1) x4_3).f2.f2.f2.f4), .string ((rd_T39 ((rd_T65 l0_0 x3_2).f1) x4_3).f2.f2.f3.f0), .int .i64 ((rd_T39 ((rd_T65 l0_0 x3_2).f1) x4_3).f2.f2.f3.f1), .int .i64 ((rd_T39 ((rd_T65 l0_0 x3_2).f1) x4_3).f2.f2.f3.f2), .bool ((rd_T39 ((rd_T65 l0_0 x3_2).f1) x4_3).f2.f2.f3.f3), .bool ((rd_T39 ((rd_T65 l0_0 x3_2).f1) x4_3).f2.f2.f3.f4), .string ((rd_T39 ((rd_T65 l0_0 x3_2).f1) x4_3).f2.f2.f4), .int .i64 ((rd_T39 ((rd_T65 l0_0 x3_2).f1) x4_3).f2.f2.f5), .slice A110_28 ((rd_T39 ((rd_T65 l0_0 x3_2).f1) x4_3).f2.f2.f6).length c110_28]] rfl (by (try simp only [List.map_toArray, List.map_cons, List.map_nil]); first | done | rfl | (simp only [List.length_drop, List.length_take]; rfl)) ?_; (with_reducible refine (quireref12_Depth.calls k3 ((rd_T39 ((rd_T65 l0_0 x3_2).f1) x4_3).f2.f2.f0) ((rd_T39 ((rd_T65 l0_0 x3_2).f1) x4_3).f2.f2.f1.f0) ((rd_T39 ((rd_T65 l0_0 x3_2).f1) x4_3).f2.f2.f1.f1.f0) ((rd_T39 ((rd_T65 l0_0 x3_2).f1) x4_3).f2.f2.f1.f1.f1) ((rd_T39 ((rd_T65 l0_0 x3_2).f1) x4_3).f2.f2.f1.f2) ((rd_T39 ((rd_T65 l0_0 x3_2).f1) x4_3).f2.f2.f1.f3) ((rd_T39 ((rd_T65 l0_0 x3_2).f1) x4_3).f2.f2.f1.f4) ((rd_T39 ((rd_T65 l0_0 x3_2).f1) x4_3).f2.f2.f2.f0) ((rd_T39 ((rd_T65 l0_0 x3_2).f1) x4_3).f2.f2.f2.f1) ((rd_T39 ((rd_T65 l0_0 x3_2).f1) x4_3).f2.f2.f2.f2) ((rd_T39 ((rd_T65 l0_0 x3_2).f1) x4_3).f2.f2.f2.f3) ((rd_T39 ((rd_T65 l0_0 x3_2).f1) x4_3).f2.f2.f2.f4) ((rd_T39 ((rd_T65 l0_0 x3_2).f1) x4_3).f2.f2.f3.f0) ((rd_T39 ((rd_T65 l0_0 x3_2).f1) x4_3).f2.f2.f3.f1) ((rd_T39 ((rd_T65 l0_0 x3_2).f1) x4_3).f2.f2.f3.f2) ((rd_T39 ((rd_T65 l0_0 x3_2).f1) x4_3).f2.f2.f3.f3) ((rd_T39 ((rd_T65 l0_0 x3_2).f1) x4_3).f2.f2.f3.f4) ((rd_T39 ((rd_T65 l0_0 x3_2).f1) x4_3).f2.f2.f4) ((rd_T39 ((rd_T65 l0_0 x3_2).f1) x4_3).f2.f2.f5) _ _ ((rd_T39 ((rd_T65 l0_0 x3_2).f1) x4_3).f2.f2.f6) t111 _ ?side1 ?side2 A24.out).mono ?_); (case side1 => repeat (first | exact (Kd.C_below HR110_28.out HB.out) | (with_reducible refine Kd.C_alloc ?_ _) | (with_reducible refine Kd.C_drewN ?_ _) | (with_reducible refine Kd.C_drew ?_))); (case side2 => exact HC110_28.out); rintro e w29 ⟨rfl, hb⟩; refine ⟨_, rfl, ?_⟩; have n0_ := Aside0.mk (blk_below (g := gb106) (o := .cells #[.slice (some ad108) l0_0.length c0_0, .slice A0_1 l0_1.length c0_1, .slice A0_2 l0_2.length c0_2] 26 (0, 0)) (by (with_reducible repeat (first | refine blk_drewN ?_ _ | refine blk_drew ?_ | refine blk_alloc ?_ _)); exact BK106.out) hb); have n1_ := Aside0.mk (below_step (by repeat (first | (with_reducible first | exact HB.out | apply below_alloc | apply pw_below_drewN | apply below_drew1 | refine below_set ?_ GE106.out) | exact HB.out)) hb); clear BK106; clear HB; have BK106 := n0_; have HB := n1_; clear n0_ n1_; (try clear hb); (try clear hb2); (try clear hk); (try clear hi)))
                            go_roundg k3
                            case measure => have := HJ1.out; have := HK2.out; have := HK3.out; omega
                            case rel => exact ⟨(wrap64 (x4_3 + 1)), (by first | rfl | (simp; done) | (simp [*]; done)), H', ⟨by have := HJ1.out; have := HK2.out; have := HK3.out; omega⟩, ⟨by (with_reducible repeat (first | refine blk_drewN ?_ _ | refine blk_drew ?_ | refine blk_alloc ?_ _)); exact BK106.out⟩, ⟨by repeat (first | (with_reducible first | exact HB.out | apply below_alloc | apply pw_below_drewN | apply below_drew1 | refine below_set ?_ GE106.out) | exact HB.out)⟩⟩
                        · rw [if_neg c23] at H
                          exact absurd H (by simp)
                      · rw [if_neg c22] at H
                        have c22b0 : decide (x4_3 < (((rd_T65 l0_0 x3_2).f1).length : Int)) = false := decide_eq_false c22
                        clear c22
                        have H' := Aside0.mk H
                        clear H
                        have hcz30_0 : wr.cell? ⟨gb106, 0, none⟩ = some (.slice A0_0 l0_0.length c0_0) := (blk_cell BK106.out 0).trans rfl
                        have hcz30_1 : wr.cell? ⟨gb106, 1, none⟩ = some (.slice A0_1 l0_1.length c0_1) := (blk_cell BK106.out 1).trans rfl
                        have hcz30_2 : wr.cell? ⟨gb106, 2, none⟩ = some (.slice A0_2 l0_2.length c0_2) := (blk_cell BK106.out 2).trans rfl
                        have hfz30_0 := blk_frozen BK106.out 0
                        have hfz30_1 := blk_frozen BK106.out 1
                        have hfz30_2 := blk_frozen BK106.out 2
                        have p108 : 0 ≤ (x3_2 : Int) := of_decide_eq_true (by first | (with_reducible assumption) | assumption)
                        have q108 : x3_2 < (l0_0.length : Int) := of_decide_eq_true (by first | (with_reducible assumption) | assumption)
                        obtain ⟨ad108, A108_1, c108_1, e108, hx108_0, hx108_1, hl108_1, hi108_1⟩ := at_T65 HR0_0.out x3_2 p108 q108
                        cases e108
                        replace hx108_0 := (HB.out.cell (World.block_lt_of_cell? w _ hx108_0)).trans hx108_0
                        replace hx108_1 := (HB.out.cell (World.block_lt_of_cell? w _ hx108_1)).trans hx108_1
                        have HR108_1 := Aside0.mk hi108_1
                        have HC108_1 := Aside0.mk hl108_1
                        clear hi108_1 hl108_1
                        replace p108 := eq_true p108
                        replace q108 := eq_true q108
                        go_wp2_with (first | ((with_reducible refine gate_load (t := 35) rfl ?_); (try (refine gate_guard (by first | rfl | (go_simp; done) | (go_simp; assumption)) ?_; dsimp only)); refine load_event20 rfl rfl (by first | rfl | (go_simp; done) | (go_simp; rfl)) Tryz.isAgg35 Tryz.sizeOf35 ?_))
                        go_roundg k3
                        case measure => have := HJ1.out; have := HK2.out; have := HK3.out; omega
                        case rel => exact ⟨(wrap64 (x3_2 + 1)), (by first | rfl | (simp; done) | (simp [*]; done)), H', ⟨by have := HJ1.out; have := HK2.out; have := HK3.out; omega⟩, ⟨by (with_reducible repeat (first | refine blk_drewN ?_ _ | refine blk_drew ?_ | refine blk_alloc ?_ _)); exact BK106.out⟩, ⟨by repeat (first | (with_reducible first | exact HB.out | apply below_alloc | apply pw_below_drewN | apply below_drew1 | refine below_set ?_ GE106.out) | exact HB.out)⟩⟩
                    · rw [if_neg c21] at H
                      exact absurd H (by simp)
                  · rw [if_neg c20] at H
                    exact absurd H (by simp)
            · rw [if_neg c18] at H
              have c18b0 : decide (x3_2 < (l0_0.length : Int)) = false := decide_eq_false c18
              clear c18
              have H' := Aside0.mk H
              clear H
              have hcz31_0 : wr.cell? ⟨gb106, 0, none⟩ = some (.slice A0_0 l0_0.length c0_0) := (blk_cell BK106.out 0).trans rfl
              have hcz31_1 : wr.cell? ⟨gb106, 1, none⟩ = some (.slice A0_1 l0_1.length c0_1) := (blk_cell BK106.out 1).trans rfl
              have hcz31_2 : wr.cell? ⟨gb106, 2, none⟩ = some (.slice A0_2 l0_2.length c0_2) := (blk_cell BK106.out 2).trans rfl
              have hfz31_0 := blk_frozen BK106.out 0
              have hfz31_1 := blk_frozen BK106.out 1
              have hfz31_2 := blk_frozen BK106.out 2
              go_wp2_with (first | ((with_reducible refine gate_load (t := 35) rfl ?_); (try (refine gate_guard (by first | rfl | (go_simp; done) | (go_simp; assumption)) ?_; dsimp only)); refine load_event20 rfl rfl (by first | rfl | (go_simp; done) | (go_simp; rfl)) Tryz.isAgg35 Tryz.sizeOf35 ?_))
              go_loopg [5] k2 (fun kq v5 w' => ∃ (x5_3 : Int), v5 = .int .i64 x5_3 ∧ Aside0 (quirelaw15_Small.l2 kq x5_3 l0_0 l0_1 l0_2 = some r) ∧ Aside0 (kq ≤ k2) ∧ Aside0 (w'.heap[gb106]? = some (.cells #[(.slice A0_0 l0_0.length c0_0), (.slice A0_1 l0_1.length c0_1), (.slice A0_2 l0_2.length c0_2)] 26 (0, 0))) ∧ Aside0 (Below w.heap.size w w'))
              case atStart => exact ⟨(0), (by first | rfl | (simp; done) | (simp [*]; done)), H', ⟨Nat.le_refl _⟩, ⟨by (with_reducible repeat (first | refine blk_drewN ?_ _ | refine blk_drew ?_ | refine blk_alloc ?_ _)); exact BK106.out⟩, ⟨by repeat (first | (with_reducible first | exact HB.out | apply below_alloc | apply pw_below_drewN | apply below_drew1 | refine below_set ?_ GE106.out) | exact HB.out)⟩⟩
              case round =>
                clear H'
                try clear c1
                try clear p1
                try clear q1
                try clear hx1
                try clear c2
                try clear p2
                try clear c4
                try clear c4b0
                try clear c4b1
                try clear p6
                try clear c7
                try clear c7b0
                try clear c9
                try clear c10
                try clear c10b0
                try clear c10b1
                try clear p10
                try clear q10
                try clear hx10
                try clear c11
                try clear p11
                try clear q11
                try clear hx11
                try clear c17
                try clear c18
                try clear c18b0
                try clear c20
                try clear c20b0
                try clear c21
                try clear c21b0
                try clear c22
                try clear c22b0
                try clear c23
                try clear c23b0
                try clear c25
                try clear c25b0
                try clear hcz11_0
                try clear hcz11_1
                try clear hcz11_2
                try clear hcz13_0
                try clear hcz13_1
                try clear hcz13_2
                try clear hcz14_0
                try clear hcz14_1
                try clear hcz14_2
                try clear hcz16_0
                try clear hcz16_1
                try clear hcz16_2
                try clear hcz19_0
                try clear hcz19_1
                try clear hcz19_2
                try clear hcz26_0
                try clear hcz26_1
                try clear hcz26_2
                try clear hcz28_0
                try clear hcz28_1
                try clear hcz28_2
                try clear hcz30_0
                try clear hcz30_1
                try clear hcz30_2
                try clear hcz31_0
                try clear hcz31_1
                try clear hcz31_2
                try clear hcz5_0
                try clear hcz5_1
                try clear hcz5_2
                try clear hcz8_0
                try clear hcz8_1
                try clear hcz8_2
                try clear hfz11_0
                try clear hfz11_1
                try clear hfz11_2
                try clear hfz13_0
                try clear hfz13_1
                try clear hfz13_2
                try clear hfz14_0
                try clear hfz14_1
                try clear hfz14_2
                try clear hfz16_0
                try clear hfz16_1
                try clear hfz16_2
                try clear hfz19_0
                try clear hfz19_1
                try clear hfz19_2
                try clear hfz26_0
                try clear hfz26_1
                try clear hfz26_2
                try clear hfz28_0
                try clear hfz28_1
                try clear hfz28_2
                try clear hfz30_0
                try clear hfz30_1
                try clear hfz30_2
                try clear hfz31_0
                try clear hfz31_1
                try clear hfz31_2
                try clear hfz5_0
                try clear hfz5_1
                try clear hfz5_2
                try clear hfz8_0
                try clear hfz8_1
                try clear hfz8_2
                try clear hx108_0
                try clear hx108_1
                try clear hx109_0
                try clear hx109_1
                try clear hx110_0
                try clear hx110_1
                try clear hx110_10
                try clear hx110_11
                try clear hx110_12
                try clear hx110_13
                try clear hx110_14
                try clear hx110_15
                try clear hx110_16
                try clear hx110_17
                try clear hx110_18
                try clear hx110_19
                try clear hx110_2
                try clear hx110_20
                try clear hx110_21
                try clear hx110_22
                try clear hx110_23
                try clear hx110_24
                try clear hx110_25
                try clear hx110_26
                try clear hx110_27
                try clear hx110_28
                try clear hx110_29
                try clear hx110_3
                try clear hx110_4
                try clear hx110_5
                try clear hx110_6
                try clear hx110_7
                try clear hx110_8
                try clear hx110_9
                try clear p108
                try clear p109
                try clear p110
                try clear p2
                try clear q108
                try clear q109
                try clear q110
                obtain ⟨x5_3, rfl, HA, HK3, BK106, HB⟩ := hrel
                cases gk with
                | zero => exact absurd HA.out (by simp [quirelaw15_Small.l2])
                | succ k3 =>
                  have H := HA.out
                  clear HA
                  simp only [quirelaw15_Small.l2] at H
                  by_cases c32 : x5_3 < (l0_1.length : Int)
                  · rw [if_pos c32] at H
                    have c32b0 : decide (x5_3 < (l0_1.length : Int)) = true := decide_eq_true c32
                    clear c32
                    by_cases c33 : 0 ≤ x5_3
                    · rw [if_pos c33] at H
                      have c33b0 : decide (0 ≤ x5_3) = true := decide_eq_true c33
                      clear c33
                      replace H := Option.bind_eq_some_iff.mp H
                      obtain ⟨t113, A340, H⟩ := H
                      replace H : (if t113 > 100 then (some false) else (quirelaw15_Small.l2 k3 (wrap64 (x5_3 + 1)) l0_0 l0_1 l0_2)) = some r := H
                      have A34 := Aside0.mk A340
                      clear A340
                      by_cases c35 : t113 > 100
                      · rw [if_pos c35] at H
                        have c35b0 : decide (100 < t113) = true := decide_eq_true c35
                        clear c35
                        obtain rfl := Option.some.inj H
                        have hcz36_0 : wr.cell? ⟨gb106, 0, none⟩ = some (.slice A0_0 l0_0.length c0_0) := (blk_cell BK106.out 0).trans rfl
                        have hcz36_1 : wr.cell? ⟨gb106, 1, none⟩ = some (.slice A0_1 l0_1.length c0_1) := (blk_cell BK106.out 1).trans rfl
                        have hcz36_2 : wr.cell? ⟨gb106, 2, none⟩ = some (.slice A0_2 l0_2.length c0_2) := (blk_cell BK106.out 2).trans rfl
                        have hfz36_0 := blk_frozen BK106.out 0
                        have hfz36_1 := blk_frozen BK106.out 1
                        have hfz36_2 := blk_frozen BK106.out 2
                        have p112 : 0 ≤ (x5_3 : Int) := of_decide_eq_true (by first | (with_reducible assumption) | assumption)
                        have q112 : x5_3 < (l0_1.length : Int) := of_decide_eq_true (by first | (with_reducible assumption) | assumption)
                        obtain ⟨ad112, A112_20, c112_20, e112, hx112_0, hx112_1, hx112_2, hx112_3, hx112_4, hx112_5, hx112_6, hx112_7, hx112_8, hx112_9, hx112_10, hx112_11, hx112_12, hx112_13, hx112_14, hx112_15, hx112_16, hx112_17, hx112_18, hx112_19, hx112_20, hl112_20, hi112_20⟩ := at_T67 HR0_1.out x5_3 p112 q112
                        cases e112
                        replace hx112_0 := (HB.out.cell (World.block_lt_of_cell? w _ hx112_0)).trans hx112_0
                        replace hx112_1 := (HB.out.cell (World.block_lt_of_cell? w _ hx112_1)).trans hx112_1
                        replace hx112_2 := (HB.out.cell (World.block_lt_of_cell? w _ hx112_2)).trans hx112_2
                        replace hx112_3 := (HB.out.cell (World.block_lt_of_cell? w _ hx112_3)).trans hx112_3
                        replace hx112_4 := (HB.out.cell (World.block_lt_of_cell? w _ hx112_4)).trans hx112_4
                        replace hx112_5 := (HB.out.cell (World.block_lt_of_cell? w _ hx112_5)).trans hx112_5
                        replace hx112_6 := (HB.out.cell (World.block_lt_of_cell? w _ hx112_6)).trans hx112_6
                        replace hx112_7 := (HB.out.cell (World.block_lt_of_cell? w _ hx112_7)).trans hx112_7
                        replace hx112_8 := (HB.out.cell (World.block_lt_of_cell? w _ hx112_8)).trans hx112_8
                        replace hx112_9 := (HB.out.cell (World.block_lt_of_cell? w _ hx112_9)).trans hx112_9
                        replace hx112_10 := (HB.out.cell (World.block_lt_of_cell? w _ hx112_10)).trans hx112_10
                        replace hx112_11 := (HB.out.cell (World.block_lt_of_cell? w _ hx112_11)).trans hx112_11
                        replace hx112_12 := (HB.out.cell (World.block_lt_of_cell? w _ hx112_12)).trans hx112_12
                        replace hx112_13 := (HB.out.cell (World.block_lt_of_cell? w _ hx112_13)).trans hx112_13
                        replace hx112_14 := (HB.out.cell (World.block_lt_of_cell? w _ hx112_14)).trans hx112_14
                        replace hx112_15 := (HB.out.cell (World.block_lt_of_cell? w _ hx112_15)).trans hx112_15
                        replace hx112_16 := (HB.out.cell (World.block_lt_of_cell? w _ hx112_16)).trans hx112_16
                        replace hx112_17 := (HB.out.cell (World.block_lt_of_cell? w _ hx112_17)).trans hx112_17
                        replace hx112_18 := (HB.out.cell (World.block_lt_of_cell? w _ hx112_18)).trans hx112_18
                        replace hx112_19 := (HB.out.cell (World.block_lt_of_cell? w _ hx112_19)).trans hx112_19
                        replace hx112_20 := (HB.out.cell (World.block_lt_of_cell? w _ hx112_20)).trans hx112_20
                        have HR112_20 := Aside0.mk hi112_20
                        have HC112_20 := Aside0.mk hl112_20
                        clear hi112_20 hl112_20
                        replace p112 := eq_true p112
                        replace q112 := eq_true q112
                        go_wp2_with (first | ((with_reducible refine gate_load (t := 35) rfl ?_); (try (refine gate_guard (by first | rfl | (go_simp; done) | (go_simp; assumption)) ?_; dsimp only)); refine load_event20 rfl rfl (by first | rfl | (go_simp; done) | (go_simp; rfl)) Tryz.isAgg35 Tryz.sizeOf35 ?_) | ((with_reducible refine gate_callee (f := 11) rfl ?_); refine goesL_ (some 71) rfl rfl Tryz.func11 (by kernel_rfl) rfl #[.agg #[.int .i64 ((rd_T67 l0_1 x5_3).f1.f0), .int .i64 ((rd_T67 l0_1 x5_3).f1.f1.f0), .int .i64 ((rd_T67 l0_1 x5_3).f1.f1.f1.f0), .int .i64 ((rd_T67 l0_1 x5_3).f1.f1.f1.f1), .string ((rd_T67 l0_1 x5_3).f1.f1.f2), .bool ((rd_T67 l0_1 x5_3).f1.f1.f3), .int .i64 ((rd_T67 l0_1 x5_3).f1.f1.f4), .string ((rd_T67 l0_1 x5_3).f1.f2.f0), .int .i64 ((rd_T67 l0_1 x5_3).f1.f2.f1), .int .i64 ((rd_T67 l0_1 x5_3).f1.f2.f2), .bool ((rd_T67 l0_1 x5_3).f1.f2.f3), .bool ((rd_T67 l0_1 x5_3).f1.f2.f4), .string ((rd_T67 l0_1 x5_3).f1.f3.f0), .int .i64 ((rd_T67 l0_1 x5_3).f1.f3.f1), .int .i64 ((rd_T67 l0_1 x5_3).f1.f3.f2), .bool ((rd_T67 l0_1 x5_3).f1.f3.f3), .bool ((rd_T67 l0_1 x5_3).f1.f3.f4), .string ((rd_T67 l0_1 x5_3).f1.f4), .int .i64 ((rd_T67 l0_1 x5_3).f1.f5), .slice A112_20 ((rd_T67 l0_1 x5_3).f1.f6).length c112_20]] rfl (by (try simp only [List.map_toArray, List.map_cons, List.map_nil]); first | done | rfl | (simp only [List.length_drop, List.length_take]; rfl)) ?_; (with_reducible refine (quireref12_Depth.calls k3 ((rd_T67 l0_1 x5_3).f1.f0) ((rd_T67 l0_1 x5_3).f1.f1.f0) ((rd_T67 l0_1 x5_3).f1.f1.f1.f0) ((rd_T67 l0_1 x5_3).f1.f1.f1.f1) ((rd_T67 l0_1 x5_3).f1.f1.f2) ((rd_T67 l0_1 x5_3).f1.f1.f3) ((rd_T67 l0_1 x5_3).f1.f1.f4) ((rd_T67 l0_1 x5_3).f1.f2.f0) ((rd_T67 l0_1 x5_3).f1.f2.f1) ((rd_T67 l0_1 x5_3).f1.f2.f2) ((rd_T67 l0_1 x5_3).f1.f2.f3) ((rd_T67 l0_1 x5_3).f1.f2.f4) ((rd_T67 l0_1 x5_3).f1.f3.f0) ((rd_T67 l0_1 x5_3).f1.f3.f1) ((rd_T67 l0_1 x5_3).f1.f3.f2) ((rd_T67 l0_1 x5_3).f1.f3.f3) ((rd_T67 l0_1 x5_3).f1.f3.f4) ((rd_T67 l0_1 x5_3).f1.f4) ((rd_T67 l0_1 x5_3).f1.f5) _ _ ((rd_T67 l0_1 x5_3).f1.f6) t113 _ ?side1 ?side2 A34.out).mono ?_); (case side1 => repeat (first | exact (Kd.C_below HR112_20.out HB.out) | (with_reducible refine Kd.C_alloc ?_ _) | (with_reducible refine Kd.C_drewN ?_ _) | (with_reducible refine Kd.C_drew ?_))); (case side2 => exact HC112_20.out); rintro e w37 ⟨rfl, hb⟩; refine ⟨_, rfl, ?_⟩; have n0_ := Aside0.mk (blk_below (g := gb106) (o := .cells #[.slice A0_0 l0_0.length c0_0, .slice (some ad112) l0_1.length c0_1, .slice A0_2 l0_2.length c0_2] 26 (0, 0)) (by (with_reducible repeat (first | refine blk_drewN ?_ _ | refine blk_drew ?_ | refine blk_alloc ?_ _)); exact BK106.out) hb); have n1_ := Aside0.mk (below_step (by repeat (first | (with_reducible first | exact HB.out | apply below_alloc | apply pw_below_drewN | apply below_drew1 | refine below_set ?_ GE106.out) | exact HB.out)) hb); clear BK106; clear HB; have BK106 := n0_; have HB := n1_; clear n0_ n1_; (try clear hb); (try clear hb2); (try clear hk); (try clear hi)))
                        go_ret
                        exact ⟨by first | rfl | (simp [errW_none, errW_some] <;> rfl) | (simp [*, errW_none, errW_some] <;> rfl), by repeat (first | (with_reducible first | exact HB.out | apply below_alloc | apply pw_below_drewN | apply below_drew1 | refine below_set ?_ GE106.out) | exact HB.out)⟩
                      · rw [if_neg c35] at H
                        have c35b0 : decide (100 < t113) = false := decide_eq_false c35
                        clear c35
                        have H' := Aside0.mk H
                        clear H
                        have hcz38_0 : wr.cell? ⟨gb106, 0, none⟩ = some (.slice A0_0 l0_0.length c0_0) := (blk_cell BK106.out 0).trans rfl
                        have hcz38_1 : wr.cell? ⟨gb106, 1, none⟩ = some (.slice A0_1 l0_1.length c0_1) := (blk_cell BK106.out 1).trans rfl
                        have hcz38_2 : wr.cell? ⟨gb106, 2, none⟩ = some (.slice A0_2 l0_2.length c0_2) := (blk_cell BK106.out 2).trans rfl
                        have hfz38_0 := blk_frozen BK106.out 0
                        have hfz38_1 := blk_frozen BK106.out 1
                        have hfz38_2 := blk_frozen BK106.out 2
                        have p112 : 0 ≤ (x5_3 : Int) := of_decide_eq_true (by first | (with_reducible assumption) | assumption)
                        have q112 : x5_3 < (l0_1.length : Int) := of_decide_eq_true (by first | (with_reducible assumption) | assumption)
                        obtain ⟨ad112, A112_20, c112_20, e112, hx112_0, hx112_1, hx112_2, hx112_3, hx112_4, hx112_5, hx112_6, hx112_7, hx112_8, hx112_9, hx112_10, hx112_11, hx112_12, hx112_13, hx112_14, hx112_15, hx112_16, hx112_17, hx112_18, hx112_19, hx112_20, hl112_20, hi112_20⟩ := at_T67 HR0_1.out x5_3 p112 q112
                        cases e112
                        replace hx112_0 := (HB.out.cell (World.block_lt_of_cell? w _ hx112_0)).trans hx112_0
                        replace hx112_1 := (HB.out.cell (World.block_lt_of_cell? w _ hx112_1)).trans hx112_1
                        replace hx112_2 := (HB.out.cell (World.block_lt_of_cell? w _ hx112_2)).trans hx112_2
                        replace hx112_3 := (HB.out.cell (World.block_lt_of_cell? w _ hx112_3)).trans hx112_3
                        replace hx112_4 := (HB.out.cell (World.block_lt_of_cell? w _ hx112_4)).trans hx112_4
                        replace hx112_5 := (HB.out.cell (World.block_lt_of_cell? w _ hx112_5)).trans hx112_5
                        replace hx112_6 := (HB.out.cell (World.block_lt_of_cell? w _ hx112_6)).trans hx112_6
                        replace hx112_7 := (HB.out.cell (World.block_lt_of_cell? w _ hx112_7)).trans hx112_7
                        replace hx112_8 := (HB.out.cell (World.block_lt_of_cell? w _ hx112_8)).trans hx112_8
                        replace hx112_9 := (HB.out.cell (World.block_lt_of_cell? w _ hx112_9)).trans hx112_9
                        replace hx112_10 := (HB.out.cell (World.block_lt_of_cell? w _ hx112_10)).trans hx112_10
                        replace hx112_11 := (HB.out.cell (World.block_lt_of_cell? w _ hx112_11)).trans hx112_11
                        replace hx112_12 := (HB.out.cell (World.block_lt_of_cell? w _ hx112_12)).trans hx112_12
                        replace hx112_13 := (HB.out.cell (World.block_lt_of_cell? w _ hx112_13)).trans hx112_13
                        replace hx112_14 := (HB.out.cell (World.block_lt_of_cell? w _ hx112_14)).trans hx112_14
                        replace hx112_15 := (HB.out.cell (World.block_lt_of_cell? w _ hx112_15)).trans hx112_15
                        replace hx112_16 := (HB.out.cell (World.block_lt_of_cell? w _ hx112_16)).trans hx112_16
                        replace hx112_17 := (HB.out.cell (World.block_lt_of_cell? w _ hx112_17)).trans hx112_17
                        replace hx112_18 := (HB.out.cell (World.block_lt_of_cell? w _ hx112_18)).trans hx112_18
                        replace hx112_19 := (HB.out.cell (World.block_lt_of_cell? w _ hx112_19)).trans hx112_19
                        replace hx112_20 := (HB.out.cell (World.block_lt_of_cell? w _ hx112_20)).trans hx112_20
                        have HR112_20 := Aside0.mk hi112_20
                        have HC112_20 := Aside0.mk hl112_20
                        clear hi112_20 hl112_20
                        replace p112 := eq_true p112
                        replace q112 := eq_true q112
                        go_wp2_with (first | ((with_reducible refine gate_load (t := 35) rfl ?_); (try (refine gate_guard (by first | rfl | (go_simp; done) | (go_simp; assumption)) ?_; dsimp only)); refine load_event20 rfl rfl (by first | rfl | (go_simp; done) | (go_simp; rfl)) Tryz.isAgg35 Tryz.sizeOf35 ?_) | ((with_reducible refine gate_callee (f := 11) rfl ?_); refine goesL_ (some 71) rfl rfl Tryz.func11 (by kernel_rfl) rfl #[.agg #[.int .i64 ((rd_T67 l0_1 x5_3).f1.f0), .int .i64 ((rd_T67 l0_1 x5_3).f1.f1.f0), .int .i64 ((rd_T67 l0_1 x5_3).f1.f1.f1.f0), .int .i64 ((rd_T67 l0_1 x5_3).f1.f1.f1.f1), .string ((rd_T67 l0_1 x5_3).f1.f1.f2), .bool ((rd_T67 l0_1 x5_3).f1.f1.f3), .int .i64 ((rd_T67 l0_1 x5_3).f1.f1.f4), .string ((rd_T67 l0_1 x5_3).f1.f2.f0), .int .i64 ((rd_T67 l0_1 x5_3).f1.f2.f1), .int .i64 ((rd_T67 l0_1 x5_3).f1.f2.f2), .bool ((rd_T67 l0_1 x5_3).f1.f2.f3), .bool ((rd_T67 l0_1 x5_3).f1.f2.f4), .string ((rd_T67 l0_1 x5_3).f1.f3.f0), .int .i64 ((rd_T67 l0_1 x5_3).f1.f3.f1), .int .i64 ((rd_T67 l0_1 x5_3).f1.f3.f2), .bool ((rd_T67 l0_1 x5_3).f1.f3.f3), .bool ((rd_T67 l0_1 x5_3).f1.f3.f4), .string ((rd_T67 l0_1 x5_3).f1.f4), .int .i64 ((rd_T67 l0_1 x5_3).f1.f5), .slice A112_20 ((rd_T67 l0_1 x5_3).f1.f6).length c112_20]] rfl (by (try simp only [List.map_toArray, List.map_cons, List.map_nil]); first | done | rfl | (simp only [List.length_drop, List.length_take]; rfl)) ?_; (with_reducible refine (quireref12_Depth.calls k3 ((rd_T67 l0_1 x5_3).f1.f0) ((rd_T67 l0_1 x5_3).f1.f1.f0) ((rd_T67 l0_1 x5_3).f1.f1.f1.f0) ((rd_T67 l0_1 x5_3).f1.f1.f1.f1) ((rd_T67 l0_1 x5_3).f1.f1.f2) ((rd_T67 l0_1 x5_3).f1.f1.f3) ((rd_T67 l0_1 x5_3).f1.f1.f4) ((rd_T67 l0_1 x5_3).f1.f2.f0) ((rd_T67 l0_1 x5_3).f1.f2.f1) ((rd_T67 l0_1 x5_3).f1.f2.f2) ((rd_T67 l0_1 x5_3).f1.f2.f3) ((rd_T67 l0_1 x5_3).f1.f2.f4) ((rd_T67 l0_1 x5_3).f1.f3.f0) ((rd_T67 l0_1 x5_3).f1.f3.f1) ((rd_T67 l0_1 x5_3).f1.f3.f2) ((rd_T67 l0_1 x5_3).f1.f3.f3) ((rd_T67 l0_1 x5_3).f1.f3.f4) ((rd_T67 l0_1 x5_3).f1.f4) ((rd_T67 l0_1 x5_3).f1.f5) _ _ ((rd_T67 l0_1 x5_3).f1.f6) t113 _ ?side1 ?side2 A34.out).mono ?_); (case side1 => repeat (first | exact (Kd.C_below HR112_20.out HB.out) | (with_reducible refine Kd.C_alloc ?_ _) | (with_reducible refine Kd.C_drewN ?_ _) | (with_reducible refine Kd.C_drew ?_))); (case side2 => exact HC112_20.out); rintro e w39 ⟨rfl, hb⟩; refine ⟨_, rfl, ?_⟩; have n0_ := Aside0.mk (blk_below (g := gb106) (o := .cells #[.slice A0_0 l0_0.length c0_0, .slice (some ad112) l0_1.length c0_1, .slice A0_2 l0_2.length c0_2] 26 (0, 0)) (by (with_reducible repeat (first | refine blk_drewN ?_ _ | refine blk_drew ?_ | refine blk_alloc ?_ _)); exact BK106.out) hb); have n1_ := Aside0.mk (below_step (by repeat (first | (with_reducible first | exact HB.out | apply below_alloc | apply pw_below_drewN | apply below_drew1 | refine below_set ?_ GE106.out) | exact HB.out)) hb); clear BK106; clear HB; have BK106 := n0_; have HB := n1_; clear n0_ n1_; (try clear hb); (try clear hb2); (try clear hk); (try clear hi)))
                        go_roundg k3
                        case measure => have := HJ1.out; have := HK2.out; have := HK3.out; omega
                        case rel => exact ⟨(wrap64 (x5_3 + 1)), (by first | rfl | (simp; done) | (simp [*]; done)), H', ⟨by have := HJ1.out; have := HK2.out; have := HK3.out; omega⟩, ⟨by (with_reducible repeat (first | refine blk_drewN ?_ _ | refine blk_drew ?_ | refine blk_alloc ?_ _)); exact BK106.out⟩, ⟨by repeat (first | (with_reducible first | exact HB.out | apply below_alloc | apply pw_below_drewN | apply below_drew1 | refine below_set ?_ GE106.out) | exact HB.out)⟩⟩
                    · rw [if_neg c33] at H
                      exact absurd H (by simp)
                  · rw [if_neg c32] at H
                    have c32b0 : decide (x5_3 < (l0_1.length : Int)) = false := decide_eq_false c32
                    clear c32
                    obtain rfl := Option.some.inj H
                    have hcz40_0 : wr.cell? ⟨gb106, 0, none⟩ = some (.slice A0_0 l0_0.length c0_0) := (blk_cell BK106.out 0).trans rfl
                    have hcz40_1 : wr.cell? ⟨gb106, 1, none⟩ = some (.slice A0_1 l0_1.length c0_1) := (blk_cell BK106.out 1).trans rfl
                    have hcz40_2 : wr.cell? ⟨gb106, 2, none⟩ = some (.slice A0_2 l0_2.length c0_2) := (blk_cell BK106.out 2).trans rfl
                    have hfz40_0 := blk_frozen BK106.out 0
                    have hfz40_1 := blk_frozen BK106.out 1
                    have hfz40_2 := blk_frozen BK106.out 2
                    go_wp2_with (first | ((with_reducible refine gate_load (t := 35) rfl ?_); (try (refine gate_guard (by first | rfl | (go_simp; done) | (go_simp; assumption)) ?_; dsimp only)); refine load_event20 rfl rfl (by first | rfl | (go_simp; done) | (go_simp; rfl)) Tryz.isAgg35 Tryz.sizeOf35 ?_))
                    go_ret
                    exact ⟨by first | rfl | (simp [errW_none, errW_some] <;> rfl) | (simp [*, errW_none, errW_some] <;> rfl), by repeat (first | (with_reducible first | exact HB.out | apply below_alloc | apply pw_below_drewN | apply below_drew1 | refine below_set ?_ GE106.out) | exact HB.out)⟩
end Go.Proofs.YtnafcjaddnkioaaGreatDoor.PLooks
end
section
set_option linter.unusedVariables false
set_option linter.unusedSimpArgs false
namespace Go.Proofs.YtnafcjaddnkioaaGreatDoor.PLooks
open Go.RowKit Go.Proofs.YtnafcjaddnkioaaGreatDoorW.PrintWords Go.Proofs.YtnafcjaddnkioaaGreatDoorW.PrintLast Go.Proofs.YtnafcjaddnkioaaGreatDoorW.PrintMore
attribute [local go_sem] max2_int min2_int max_two min_two max_three min_three max_four min_four   -- for this text's walks alone
set_option linter.unusedVariables false
set_option linter.unusedSimpArgs false
-- NOT PRINTED: function 27 (quireref15_Get)
end Go.Proofs.YtnafcjaddnkioaaGreatDoor.PLooks
end
