/- quireref12.Same as plain Lean, with its contract: written by the kit's printer for this claim. -/
import Derived.Test.YtnafcjaddnkioaaGreatDoorQI
import Derived.Test.YtnafcjaddnkioaaGreatDoorQH
import Derived.Test.YtnafcjaddnkioaaGreatDoorQJ
section
set_option linter.unusedVariables false
set_option linter.unusedSimpArgs false
namespace Go.Proofs.YtnafcjaddnkioaaGreatDoor.PLooks
open Go.RowKit Go.Proofs.YtnafcjaddnkioaaGreatDoorW.PrintWords Go.Proofs.YtnafcjaddnkioaaGreatDoorW.PrintLast Go.Proofs.YtnafcjaddnkioaaGreatDoorW.PrintMore
attribute [local go_sem] max2_int min2_int max_two min_two max_three min_three max_four min_four   -- for this text's walks alone
set_option linter.unusedVariables false
set_option linter.unusedSimpArgs false
attribute [local go_sem high] eqA30 eqA32
/-! ### quireref12_Same: function 51 -/
mutual
def quireref12_Same.j0 : Nat → Bool → Int → Int → Int → Int → ByteArray → Bool → Int → ByteArray → Int → Int → Bool → Bool → ByteArray → Int → Int → Bool → Bool → ByteArray → Int → List (S35) → Int → Int → Int → Int → ByteArray → Bool → Int → ByteArray → Int → Int → Bool → Bool → ByteArray → Int → Int → Bool → Bool → ByteArray → Int → List (S35) → Option (Bool)
  | 0, _, _, _, _, _, _, _, _, _, _, _, _, _, _, _, _, _, _, _, _, _, _, _, _, _, _, _, _, _, _, _, _, _, _, _, _, _, _, _, _, _ => none
  | k + 1, x54, x121000, x121001, x121002, x121003, x121004, x121005, x121006, x121007, x121008, x121009, x121010, x121011, x121012, x121013, x121014, x121015, x121016, x121017, x121018, x121019, x122000, x122001, x122002, x122003, x122004, x122005, x122006, x122007, x122008, x122009, x122010, x122011, x122012, x122013, x122014, x122015, x122016, x122017, x122018, x122019 => if x54 = true then (some false) else (quireref12_Same.l0 k 0 x121000 x121001 x121002 x121003 x121004 x121005 x121006 x121007 x121008 x121009 x121010 x121011 x121012 x121013 x121014 x121015 x121016 x121017 x121018 x121019 x122000 x122001 x122002 x122003 x122004 x122005 x122006 x122007 x122008 x122009 x122010 x122011 x122012 x122013 x122014 x122015 x122016 x122017 x122018 x122019)
def quireref12_Same.l0 : Nat → Int → Int → Int → Int → Int → ByteArray → Bool → Int → ByteArray → Int → Int → Bool → Bool → ByteArray → Int → Int → Bool → Bool → ByteArray → Int → List (S35) → Int → Int → Int → Int → ByteArray → Bool → Int → ByteArray → Int → Int → Bool → Bool → ByteArray → Int → Int → Bool → Bool → ByteArray → Int → List (S35) → Option (Bool)
  | 0, _, _, _, _, _, _, _, _, _, _, _, _, _, _, _, _, _, _, _, _, _, _, _, _, _, _, _, _, _, _, _, _, _, _, _, _, _, _, _, _, _ => none
  | k + 1, x5, x121000, x121001, x121002, x121003, x121004, x121005, x121006, x121007, x121008, x121009, x121010, x121011, x121012, x121013, x121014, x121015, x121016, x121017, x121018, x121019, x122000, x122001, x122002, x122003, x122004, x122005, x122006, x122007, x122008, x122009, x122010, x122011, x122012, x122013, x122014, x122015, x122016, x122017, x122018, x122019 => if x5 < (x121019.length : Int) then (if 0 ≤ x5 then (if x5 < (x122019.length : Int) then ((quireref12_Same.f k ((rd_T35 x121019 x5).f0) ((rd_T35 x121019 x5).f1.f0) ((rd_T35 x121019 x5).f1.f1.f0) ((rd_T35 x121019 x5).f1.f1.f1) ((rd_T35 x121019 x5).f1.f2) ((rd_T35 x121019 x5).f1.f3) ((rd_T35 x121019 x5).f1.f4) ((rd_T35 x121019 x5).f2.f0) ((rd_T35 x121019 x5).f2.f1) ((rd_T35 x121019 x5).f2.f2) ((rd_T35 x121019 x5).f2.f3) ((rd_T35 x121019 x5).f2.f4) ((rd_T35 x121019 x5).f3.f0) ((rd_T35 x121019 x5).f3.f1) ((rd_T35 x121019 x5).f3.f2) ((rd_T35 x121019 x5).f3.f3) ((rd_T35 x121019 x5).f3.f4) ((rd_T35 x121019 x5).f4) ((rd_T35 x121019 x5).f5) ((rd_T35 x121019 x5).f6) ((rd_T35 x122019 x5).f0) ((rd_T35 x122019 x5).f1.f0) ((rd_T35 x122019 x5).f1.f1.f0) ((rd_T35 x122019 x5).f1.f1.f1) ((rd_T35 x122019 x5).f1.f2) ((rd_T35 x122019 x5).f1.f3) ((rd_T35 x122019 x5).f1.f4) ((rd_T35 x122019 x5).f2.f0) ((rd_T35 x122019 x5).f2.f1) ((rd_T35 x122019 x5).f2.f2) ((rd_T35 x122019 x5).f2.f3) ((rd_T35 x122019 x5).f2.f4) ((rd_T35 x122019 x5).f3.f0) ((rd_T35 x122019 x5).f3.f1) ((rd_T35 x122019 x5).f3.f2) ((rd_T35 x122019 x5).f3.f3) ((rd_T35 x122019 x5).f3.f4) ((rd_T35 x122019 x5).f4) ((rd_T35 x122019 x5).f5) ((rd_T35 x122019 x5).f6)).bind fun t124 => (if t124 = true then (quireref12_Same.l0 k (wrap64 (x5 + 1)) x121000 x121001 x121002 x121003 x121004 x121005 x121006 x121007 x121008 x121009 x121010 x121011 x121012 x121013 x121014 x121015 x121016 x121017 x121018 x121019 x122000 x122001 x122002 x122003 x122004 x122005 x122006 x122007 x122008 x122009 x122010 x122011 x122012 x122013 x122014 x122015 x122016 x122017 x122018 x122019) else (some false))) else (none)) else (none)) else (some true)
def quireref12_Same.f : Nat → Int → Int → Int → Int → ByteArray → Bool → Int → ByteArray → Int → Int → Bool → Bool → ByteArray → Int → Int → Bool → Bool → ByteArray → Int → List (S35) → Int → Int → Int → Int → ByteArray → Bool → Int → ByteArray → Int → Int → Bool → Bool → ByteArray → Int → Int → Bool → Bool → ByteArray → Int → List (S35) → Option (Bool)
  | 0, _, _, _, _, _, _, _, _, _, _, _, _, _, _, _, _, _, _, _, _, _, _, _, _, _, _, _, _, _, _, _, _, _, _, _, _, _, _, _, _ => none
  | k + 1, a0_0, a0_1, a0_2, a0_3, a0_4, a0_5, a0_6, a0_7, a0_8, a0_9, a0_10, a0_11, a0_12, a0_13, a0_14, a0_15, a0_16, a0_17, a0_18, l0_19, a1_0, a1_1, a1_2, a1_3, a1_4, a1_5, a1_6, a1_7, a1_8, a1_9, a1_10, a1_11, a1_12, a1_13, a1_14, a1_15, a1_16, a1_17, a1_18, l1_19 => if a0_0 = a1_0 then (if (!(a0_1 == a1_1) || ((!(a0_2 == a1_2) || (!(a0_3 == a1_3))) || (!(a0_4.toList == a1_4.toList) || (!(a0_5 == a1_5) || (!(a0_6 == a1_6)))))) = true then (quireref12_Same.j0 k true a0_0 a0_1 a0_2 a0_3 a0_4 a0_5 a0_6 a0_7 a0_8 a0_9 a0_10 a0_11 a0_12 a0_13 a0_14 a0_15 a0_16 a0_17 a0_18 l0_19 a1_0 a1_1 a1_2 a1_3 a1_4 a1_5 a1_6 a1_7 a1_8 a1_9 a1_10 a1_11 a1_12 a1_13 a1_14 a1_15 a1_16 a1_17 a1_18 l1_19) else (if (!(a0_7.toList == a1_7.toList) || (!(a0_8 == a1_8) || (!(a0_9 == a1_9) || (!(a0_10 == a1_10) || (!(a0_11 == a1_11)))))) = true then (quireref12_Same.j0 k true a0_0 a0_1 a0_2 a0_3 a0_4 a0_5 a0_6 a0_7 a0_8 a0_9 a0_10 a0_11 a0_12 a0_13 a0_14 a0_15 a0_16 a0_17 a0_18 l0_19 a1_0 a1_1 a1_2 a1_3 a1_4 a1_5 a1_6 a1_7 a1_8 a1_9 a1_10 a1_11 a1_12 a1_13 a1_14 a1_15 a1_16 a1_17 a1_18 l1_19) else (if (!(a0_12.toList == a1_12.toList) || (!(a0_13 == a1_13) || (!(a0_14 == a1_14) || (!(a0_15 == a1_15) || (!(a0_16 == a1_16)))))) = true then (quireref12_Same.j0 k true a0_0 a0_1 a0_2 a0_3 a0_4 a0_5 a0_6 a0_7 a0_8 a0_9 a0_10 a0_11 a0_12 a0_13 a0_14 a0_15 a0_16 a0_17 a0_18 l0_19 a1_0 a1_1 a1_2 a1_3 a1_4 a1_5 a1_6 a1_7 a1_8 a1_9 a1_10 a1_11 a1_12 a1_13 a1_14 a1_15 a1_16 a1_17 a1_18 l1_19) else (if a0_17.toList = a1_17.toList then (if a0_18 = a1_18 then (quireref12_Same.j0 k ((l0_19.length : Int) != (l1_19.length : Int)) a0_0 a0_1 a0_2 a0_3 a0_4 a0_5 a0_6 a0_7 a0_8 a0_9 a0_10 a0_11 a0_12 a0_13 a0_14 a0_15 a0_16 a0_17 a0_18 l0_19 a1_0 a1_1 a1_2 a1_3 a1_4 a1_5 a1_6 a1_7 a1_8 a1_9 a1_10 a1_11 a1_12 a1_13 a1_14 a1_15 a1_16 a1_17 a1_18 l1_19) else (quireref12_Same.j0 k true a0_0 a0_1 a0_2 a0_3 a0_4 a0_5 a0_6 a0_7 a0_8 a0_9 a0_10 a0_11 a0_12 a0_13 a0_14 a0_15 a0_16 a0_17 a0_18 l0_19 a1_0 a1_1 a1_2 a1_3 a1_4 a1_5 a1_6 a1_7 a1_8 a1_9 a1_10 a1_11 a1_12 a1_13 a1_14 a1_15 a1_16 a1_17 a1_18 l1_19)) else (quireref12_Same.j0 k true a0_0 a0_1 a0_2 a0_3 a0_4 a0_5 a0_6 a0_7 a0_8 a0_9 a0_10 a0_11 a0_12 a0_13 a0_14 a0_15 a0_16 a0_17 a0_18 l0_19 a1_0 a1_1 a1_2 a1_3 a1_4 a1_5 a1_6 a1_7 a1_8 a1_9 a1_10 a1_11 a1_12 a1_13 a1_14 a1_15 a1_16 a1_17 a1_18 l1_19))))) else (quireref12_Same.j0 k true a0_0 a0_1 a0_2 a0_3 a0_4 a0_5 a0_6 a0_7 a0_8 a0_9 a0_10 a0_11 a0_12 a0_13 a0_14 a0_15 a0_16 a0_17 a0_18 l0_19 a1_0 a1_1 a1_2 a1_3 a1_4 a1_5 a1_6 a1_7 a1_8 a1_9 a1_10 a1_11 a1_12 a1_13 a1_14 a1_15 a1_16 a1_17 a1_18 l1_19)
end
theorem quireref12_Same.mono_l : ∀ k, (∀ y0 y1 y2 y3 y4 y5 y6 y7 y8 y9 y10 y11 y12 y13 y14 y15 y16 y17 y18 y19 y20 y21 y22 y23 y24 y25 y26 y27 y28 y29 y30 y31 y32 y33 y34 y35 y36 y37 y38 y39, LeO (quireref12_Same.f k y0 y1 y2 y3 y4 y5 y6 y7 y8 y9 y10 y11 y12 y13 y14 y15 y16 y17 y18 y19 y20 y21 y22 y23 y24 y25 y26 y27 y28 y29 y30 y31 y32 y33 y34 y35 y36 y37 y38 y39) (quireref12_Same.f (k + 1) y0 y1 y2 y3 y4 y5 y6 y7 y8 y9 y10 y11 y12 y13 y14 y15 y16 y17 y18 y19 y20 y21 y22 y23 y24 y25 y26 y27 y28 y29 y30 y31 y32 y33 y34 y35 y36 y37 y38 y39)) ∧ (∀ y0 y1 y2 y3 y4 y5 y6 y7 y8 y9 y10 y11 y12 y13 y14 y15 y16 y17 y18 y19 y20 y21 y22 y23 y24 y25 y26 y27 y28 y29 y30 y31 y32 y33 y34 y35 y36 y37 y38 y39 y40, LeO (quireref12_Same.j0 k y0 y1 y2 y3 y4 y5 y6 y7 y8 y9 y10 y11 y12 y13 y14 y15 y16 y17 y18 y19 y20 y21 y22 y23 y24 y25 y26 y27 y28 y29 y30 y31 y32 y33 y34 y35 y36 y37 y38 y39 y40) (quireref12_Same.j0 (k + 1) y0 y1 y2 y3 y4 y5 y6 y7 y8 y9 y10 y11 y12 y13 y14 y15 y16 y17 y18 y19 y20 y21 y22 y23 y24 y25 y26 y27 y28 y29 y30 y31 y32 y33 y34 y35 y36 y37 y38 y39 y40)) ∧ (∀ y0 y1 y2 y3 y4 y5 y6 y7 y8 y9 y10 y11 y12 y13 y14 y15 y16 y17 y18 y19 y20 y21 y22 y23 y24 y25 y26 y27 y28 y29 y30 y31 y32 y33 y34 y35 y36 y37 y38 y39 y40, LeO (quireref12_Same.l0 k y0 y1 y2 y3 y4 y5 y6 y7 y8 y9 y10 y11 y12 y13 y14 y15 y16 y17 y18 y19 y20 y21 y22 y23 y24 y25 y26 y27 y28 y29 y30 y31 y32 y33 y34 y35 y36 y37 y38 y39 y40) (quireref12_Same.l0 (k + 1) y0 y1 y2 y3 y4 y5 y6 y7 y8 y9 y10 y11 y12 y13 y14 y15 y16 y17 y18 y19 y20 y21 y22 y23 y24 y25 y26 y27 y28 y29 y30 y31 y32 y33 y34 y35 y36 y37 y38 y39 y40))
  | 0 => ⟨fun _ _ _ _ _ _ _ _ _ _ _ _ _ _ _ _ _ _ _ _ _ _ _ _ _ _ _ _ _ _ _ _ _ _ _ _ _ _ _ _ r h => by simp [quireref12_Same.f] at h, fun _ _ _ _ _ _ _ _ _ _ _ _ _ _ _ _ _ _ _ _ _ _ _ _ _ _ _ _ _ _ _ _ _ _ _ _ _ _ _ _ _ r h => by simp [quireref12_Same.j0] at h, fun _ _ _ _ _ _ _ _ _ _ _ _ _ _ _ _ _ _ _ _ _ _ _ _ _ _ _ _ _ _ _ _ _ _ _ _ _ _ _ _ _ r h => by simp [quireref12_Same.l0] at h⟩
  | k + 1 => by
    obtain ⟨ih0, ih1, ih2⟩ := quireref12_Same.mono_l k
    refine ⟨?_, ?_, ?_⟩
    · intro y0 y1 y2 y3 y4 y5 y6 y7 y8 y9 y10 y11 y12 y13 y14 y15 y16 y17 y18 y19 y20 y21 y22 y23 y24 y25 y26 y27 y28 y29 y30 y31 y32 y33 y34 y35 y36 y37 y38 y39
      unfold quireref12_Same.f
      repeat' first
      | (with_reducible exact ih0 _ _ _ _ _ _ _ _ _ _ _ _ _ _ _ _ _ _ _ _ _ _ _ _ _ _ _ _ _ _ _ _ _ _ _ _ _ _ _ _)
      | (with_reducible exact ih1 _ _ _ _ _ _ _ _ _ _ _ _ _ _ _ _ _ _ _ _ _ _ _ _ _ _ _ _ _ _ _ _ _ _ _ _ _ _ _ _ _)
      | (with_reducible exact ih2 _ _ _ _ _ _ _ _ _ _ _ _ _ _ _ _ _ _ _ _ _ _ _ _ _ _ _ _ _ _ _ _ _ _ _ _ _ _ _ _ _)
      | (with_reducible exact LeO.refl _)
      | (with_reducible exact LeO.none _)
      | (with_reducible refine LeO.ite ?_ ?_)
      | (with_reducible refine LeO.bind ?_ (fun _ => ?_))
      | exact ih0 _ _ _ _ _ _ _ _ _ _ _ _ _ _ _ _ _ _ _ _ _ _ _ _ _ _ _ _ _ _ _ _ _ _ _ _ _ _ _ _
      | exact ih1 _ _ _ _ _ _ _ _ _ _ _ _ _ _ _ _ _ _ _ _ _ _ _ _ _ _ _ _ _ _ _ _ _ _ _ _ _ _ _ _ _
      | exact ih2 _ _ _ _ _ _ _ _ _ _ _ _ _ _ _ _ _ _ _ _ _ _ _ _ _ _ _ _ _ _ _ _ _ _ _ _ _ _ _ _ _
      | exact LeO.none _
      | refine LeO.ite ?_ ?_
      | refine LeO.bind ?_ (fun _ => ?_)
    · intro y0 y1 y2 y3 y4 y5 y6 y7 y8 y9 y10 y11 y12 y13 y14 y15 y16 y17 y18 y19 y20 y21 y22 y23 y24 y25 y26 y27 y28 y29 y30 y31 y32 y33 y34 y35 y36 y37 y38 y39 y40
      unfold quireref12_Same.j0
      repeat' first
      | (with_reducible exact ih0 _ _ _ _ _ _ _ _ _ _ _ _ _ _ _ _ _ _ _ _ _ _ _ _ _ _ _ _ _ _ _ _ _ _ _ _ _ _ _ _)
      | (with_reducible exact ih1 _ _ _ _ _ _ _ _ _ _ _ _ _ _ _ _ _ _ _ _ _ _ _ _ _ _ _ _ _ _ _ _ _ _ _ _ _ _ _ _ _)
      | (with_reducible exact ih2 _ _ _ _ _ _ _ _ _ _ _ _ _ _ _ _ _ _ _ _ _ _ _ _ _ _ _ _ _ _ _ _ _ _ _ _ _ _ _ _ _)
      | (with_reducible exact LeO.refl _)
      | (with_reducible exact LeO.none _)
      | (with_reducible refine LeO.ite ?_ ?_)
      | (with_reducible refine LeO.bind ?_ (fun _ => ?_))
      | exact ih0 _ _ _ _ _ _ _ _ _ _ _ _ _ _ _ _ _ _ _ _ _ _ _ _ _ _ _ _ _ _ _ _ _ _ _ _ _ _ _ _
      | exact ih1 _ _ _ _ _ _ _ _ _ _ _ _ _ _ _ _ _ _ _ _ _ _ _ _ _ _ _ _ _ _ _ _ _ _ _ _ _ _ _ _ _
      | exact ih2 _ _ _ _ _ _ _ _ _ _ _ _ _ _ _ _ _ _ _ _ _ _ _ _ _ _ _ _ _ _ _ _ _ _ _ _ _ _ _ _ _
      | exact LeO.none _
      | refine LeO.ite ?_ ?_
      | refine LeO.bind ?_ (fun _ => ?_)
    · intro y0 y1 y2 y3 y4 y5 y6 y7 y8 y9 y10 y11 y12 y13 y14 y15 y16 y17 y18 y19 y20 y21 y22 y23 y24 y25 y26 y27 y28 y29 y30 y31 y32 y33 y34 y35 y36 y37 y38 y39 y40
      unfold quireref12_Same.l0
      repeat' first
      | (with_reducible exact ih0 _ _ _ _ _ _ _ _ _ _ _ _ _ _ _ _ _ _ _ _ _ _ _ _ _ _ _ _ _ _ _ _ _ _ _ _ _ _ _ _)
      | (with_reducible exact ih1 _ _ _ _ _ _ _ _ _ _ _ _ _ _ _ _ _ _ _ _ _ _ _ _ _ _ _ _ _ _ _ _ _ _ _ _ _ _ _ _ _)
      | (with_reducible exact ih2 _ _ _ _ _ _ _ _ _ _ _ _ _ _ _ _ _ _ _ _ _ _ _ _ _ _ _ _ _ _ _ _ _ _ _ _ _ _ _ _ _)
      | (with_reducible exact LeO.refl _)
      | (with_reducible exact LeO.none _)
      | (with_reducible refine LeO.ite ?_ ?_)
      | (with_reducible refine LeO.bind ?_ (fun _ => ?_))
      | exact ih0 _ _ _ _ _ _ _ _ _ _ _ _ _ _ _ _ _ _ _ _ _ _ _ _ _ _ _ _ _ _ _ _ _ _ _ _ _ _ _ _
      | exact ih1 _ _ _ _ _ _ _ _ _ _ _ _ _ _ _ _ _ _ _ _ _ _ _ _ _ _ _ _ _ _ _ _ _ _ _ _ _ _ _ _ _
      | exact ih2 _ _ _ _ _ _ _ _ _ _ _ _ _ _ _ _ _ _ _ _ _ _ _ _ _ _ _ _ _ _ _ _ _ _ _ _ _ _ _ _ _
      | exact LeO.none _
      | refine LeO.ite ?_ ?_
      | refine LeO.bind ?_ (fun _ => ?_)
theorem quireref12_Same.mono : ∀ a0 a1 a2 a3 a4 a5 a6 a7 a8 a9 a10 a11 a12 a13 a14 a15 a16 a17 a18 a19 a20 a21 a22 a23 a24 a25 a26 a27 a28 a29 a30 a31 a32 a33 a34 a35 a36 a37 a38 a39 k, LeO (quireref12_Same.f k a0 a1 a2 a3 a4 a5 a6 a7 a8 a9 a10 a11 a12 a13 a14 a15 a16 a17 a18 a19 a20 a21 a22 a23 a24 a25 a26 a27 a28 a29 a30 a31 a32 a33 a34 a35 a36 a37 a38 a39) (quireref12_Same.f (k + 1) a0 a1 a2 a3 a4 a5 a6 a7 a8 a9 a10 a11 a12 a13 a14 a15 a16 a17 a18 a19 a20 a21 a22 a23 a24 a25 a26 a27 a28 a29 a30 a31 a32 a33 a34 a35 a36 a37 a38 a39) := by
  intro a0 a1 a2 a3 a4 a5 a6 a7 a8 a9 a10 a11 a12 a13 a14 a15 a16 a17 a18 a19 a20 a21 a22 a23 a24 a25 a26 a27 a28 a29 a30 a31 a32 a33 a34 a35 a36 a37 a38 a39 k
  obtain ⟨ih0, ih1, ih2⟩ := quireref12_Same.mono_l k
  exact ih0 a0 a1 a2 a3 a4 a5 a6 a7 a8 a9 a10 a11 a12 a13 a14 a15 a16 a17 a18 a19 a20 a21 a22 a23 a24 a25 a26 a27 a28 a29 a30 a31 a32 a33 a34 a35 a36 a37 a38 a39
def quireref12_Same.T6 : Bool × List (List Nat × List Nat) := (true, [([], []), ([0], [0]), ([], []), ([1, 2], [1, 2]), ([3], [3]), ([], []), ([5], [5]), ([], []), ([6, 7], [6, 7]), ([8], [8]), ([4, 9], [4, 9]), ([10], [10])])
def quireref12_Same.B6 : List Nat := [0, 1, 0, 7, 15, 0, 32, 0, 224, 480, 1023, 2047]
theorem quireref12_Same.tab6 : rtab .any (opsOf Tryz.f51 6) = quireref12_Same.T6 := by kernel_rfl
theorem quireref12_Same.bits6 : waitsOk quireref12_Same.T6.2 quireref12_Same.B6 = true := by kernel_rfl
set_option maxHeartbeats 8000000 in
set_option maxRecDepth 100000 in
theorem quireref12_Same.calls (k : Nat) : ∀ (a0_0 : Int) (a0_1 : Int) (a0_2 : Int) (a0_3 : Int) (a0_4 : ByteArray) (a0_5 : Bool) (a0_6 : Int) (a0_7 : ByteArray) (a0_8 : Int) (a0_9 : Int) (a0_10 : Bool) (a0_11 : Bool) (a0_12 : ByteArray) (a0_13 : Int) (a0_14 : Int) (a0_15 : Bool) (a0_16 : Bool) (a0_17 : ByteArray) (a0_18 : Int) (A0_19 : Option Addr) (c0_19 : Nat) (l0_19 : List (S35)) (a1_0 : Int) (a1_1 : Int) (a1_2 : Int) (a1_3 : Int) (a1_4 : ByteArray) (a1_5 : Bool) (a1_6 : Int) (a1_7 : ByteArray) (a1_8 : Int) (a1_9 : Int) (a1_10 : Bool) (a1_11 : Bool) (a1_12 : ByteArray) (a1_13 : Int) (a1_14 : Int) (a1_15 : Bool) (a1_16 : Bool) (a1_17 : ByteArray) (a1_18 : Int) (A1_19 : Option Addr) (c1_19 : Nat) (l1_19 : List (S35)) (r : Bool) (w : World) (hr0_19 : Kd.C k35 w A0_19 l0_19.length l0_19) (hc0_19 : l0_19.length ≤ c0_19) (hr1_19 : Kd.C k35 w A1_19 l1_19.length l1_19) (hc1_19 : l1_19.length ≤ c1_19) (h : quireref12_Same.f k a0_0 a0_1 a0_2 a0_3 a0_4 a0_5 a0_6 a0_7 a0_8 a0_9 a0_10 a0_11 a0_12 a0_13 a0_14 a0_15 a0_16 a0_17 a0_18 l0_19 a1_0 a1_1 a1_2 a1_3 a1_4 a1_5 a1_6 a1_7 a1_8 a1_9 a1_10 a1_11 a1_12 a1_13 a1_14 a1_15 a1_16 a1_17 a1_18 l1_19 = some r),
    Calls Tryz.prog 51 #[.agg #[.int .i64 a0_0, .int .i64 a0_1, .int .i64 a0_2, .int .i64 a0_3, .string a0_4, .bool a0_5, .int .i64 a0_6, .string a0_7, .int .i64 a0_8, .int .i64 a0_9, .bool a0_10, .bool a0_11, .string a0_12, .int .i64 a0_13, .int .i64 a0_14, .bool a0_15, .bool a0_16, .string a0_17, .int .i64 a0_18, .slice A0_19 l0_19.length c0_19], .agg #[.int .i64 a1_0, .int .i64 a1_1, .int .i64 a1_2, .int .i64 a1_3, .string a1_4, .bool a1_5, .int .i64 a1_6, .string a1_7, .int .i64 a1_8, .int .i64 a1_9, .bool a1_10, .bool a1_11, .string a1_12, .int .i64 a1_13, .int .i64 a1_14, .bool a1_15, .bool a1_16, .string a1_17, .int .i64 a1_18, .slice A1_19 l1_19.length c1_19]] w fun e w' => e = .returned (.bool r) ∧ Below w.heap.size w w' := by
  induction k using Nat.strongRecOn with
  | _ k ih =>
  intro a0_0 a0_1 a0_2 a0_3 a0_4 a0_5 a0_6 a0_7 a0_8 a0_9 a0_10 a0_11 a0_12 a0_13 a0_14 a0_15 a0_16 a0_17 a0_18 A0_19 c0_19 l0_19 a1_0 a1_1 a1_2 a1_3 a1_4 a1_5 a1_6 a1_7 a1_8 a1_9 a1_10 a1_11 a1_12 a1_13 a1_14 a1_15 a1_16 a1_17 a1_18 A1_19 c1_19 l1_19 r w hr0_19 hc0_19 hr1_19 hc1_19 h
  cases k with
  | zero => exact absurd h (by simp [quireref12_Same.f])
  | succ k =>
  simp only [quireref12_Same.f] at h
  have hu35 := Tryz.underlying35
  have hu30 := Tryz.underlying30
  have hu32 := Tryz.underlying32
  have HR0_19 := Aside0.mk hr0_19
  have HC0_19 := Aside0.mk hc0_19
  clear hr0_19 hc0_19
  have HR1_19 := Aside0.mk hr1_19
  have HC1_19 := Aside0.mk hc1_19
  clear hr1_19 hc1_19
  have HB := Aside0.mk (Below.refl w.heap.size w)
  have H : (if a0_0 = a1_0 then (if (!(a0_1 == a1_1) || ((!(a0_2 == a1_2) || (!(a0_3 == a1_3))) || (!(a0_4.toList == a1_4.toList) || (!(a0_5 == a1_5) || (!(a0_6 == a1_6)))))) = true then (quireref12_Same.j0 k true a0_0 a0_1 a0_2 a0_3 a0_4 a0_5 a0_6 a0_7 a0_8 a0_9 a0_10 a0_11 a0_12 a0_13 a0_14 a0_15 a0_16 a0_17 a0_18 l0_19 a1_0 a1_1 a1_2 a1_3 a1_4 a1_5 a1_6 a1_7 a1_8 a1_9 a1_10 a1_11 a1_12 a1_13 a1_14 a1_15 a1_16 a1_17 a1_18 l1_19) else (if (!(a0_7.toList == a1_7.toList) || (!(a0_8 == a1_8) || (!(a0_9 == a1_9) || (!(a0_10 == a1_10) || (!(a0_11 == a1_11)))))) = true then (quireref12_Same.j0 k true a0_0 a0_1 a0_2 a0_3 a0_4 a0_5 a0_6 a0_7 a0_8 a0_9 a0_10 a0_11 a0_12 a0_13 a0_14 a0_15 a0_16 a0_17 a0_18 l0_19 a1_0 a1_1 a1_2 a1_3 a1_4 a1_5 a1_6 a1_7 a1_8 a1_9 a1_10 a1_11 a1_12 a1_13 a1_14 a1_15 a1_16 a1_17 a1_18 l1_19) else (if (!(a0_12.toList == a1_12.toList) || (!(a0_13 == a1_13) || (!(a0_14 == a1_14) || (!(a0_15 == a1_15) || (!(a0_16 == a1_16)))))) = true then (quireref12_Same.j0 k true a0_0 a0_1 a0_2 a0_3 a0_4 a0_5 a0_6 a0_7 a0_8 a0_9 a0_10 a0_11 a0_12 a0_13 a0_14 a0_15 a0_16 a0_17 a0_18 l0_19 a1_0 a1_1 a1_2 a1_3 a1_4 a1_5 a1_6 a1_7 a1_8 a1_9 a1_10 a1_11 a1_12 a1_13 a1_14 a1_15 a1_16 a1_17 a1_18 l1_19) else (if a0_17.toList = a1_17.toList then (if a0_18 = a1_18 then (quireref12_Same.j0 k ((l0_19.length : Int) != (l1_19.length : Int)) a0_0 a0_1 a0_2 a0_3 a0_4 a0_5 a0_6 a0_7 a0_8 a0_9 a0_10 a0_11 a0_12 a0_13 a0_14 a0_15 a0_16 a0_17 a0_18 l0_19 a1_0 a1_1 a1_2 a1_3 a1_4 a1_5 a1_6 a1_7 a1_8 a1_9 a1_10 a1_11 a1_12 a1_13 a1_14 a1_15 a1_16 a1_17 a1_18 l1_19) else (quireref12_Same.j0 k true a0_0 a0_1 a0_2 a0_3 a0_4 a0_5 a0_6 a0_7 a0_8 a0_9 a0_10 a0_11 a0_12 a0_13 a0_14 a0_15 a0_16 a0_17 a0_18 l0_19 a1_0 a1_1 a1_2 a1_3 a1_4 a1_5 a1_6 a1_7 a1_8 a1_9 a1_10 a1_11 a1_12 a1_13 a1_14 a1_15 a1_16 a1_17 a1_18 l1_19)) else (quireref12_Same.j0 k true a0_0 a0_1 a0_2 a0_3 a0_4 a0_5 a0_6 a0_7 a0_8 a0_9 a0_10 a0_11 a0_12 a0_13 a0_14 a0_15 a0_16 a0_17 a0_18 l0_19 a1_0 a1_1 a1_2 a1_3 a1_4 a1_5 a1_6 a1_7 a1_8 a1_9 a1_10 a1_11 a1_12 a1_13 a1_14 a1_15 a1_16 a1_17 a1_18 l1_19))))) else (quireref12_Same.j0 k true a0_0 a0_1 a0_2 a0_3 a0_4 a0_5 a0_6 a0_7 a0_8 a0_9 a0_10 a0_11 a0_12 a0_13 a0_14 a0_15 a0_16 a0_17 a0_18 l0_19 a1_0 a1_1 a1_2 a1_3 a1_4 a1_5 a1_6 a1_7 a1_8 a1_9 a1_10 a1_11 a1_12 a1_13 a1_14 a1_15 a1_16 a1_17 a1_18 l1_19)) = some r := h
  clear h
  have HC3 := Aside0.mk H
  clear H
  go_enter Tryz.func51, Tryz.ntmps51
  go_upto_region 1 with (first | ((with_reducible refine gate_load (t := 35) rfl ?_); (try (refine gate_guard (by first | rfl | (go_simp; done) | (go_simp; assumption)) ?_; dsimp only)); refine load_event20 rfl rfl (by first | rfl | (go_simp; done) | (go_simp; rfl)) Tryz.isAgg35 Tryz.sizeOf35 ?_) | ((with_reducible refine gate_dst (N := 2) rfl ?_); (try (refine gate_guard (by rfl) ?_; dsimp only)); refine box_event ?hg (N := 2) ?hd (cs := #[.int .i64 a0_0, .int .i64 a0_1, .int .i64 a0_2, .int .i64 a0_3, .string a0_4, .bool a0_5, .int .i64 a0_6, .string a0_7, .int .i64 a0_8, .int .i64 a0_9, .bool a0_10, .bool a0_11, .string a0_12, .int .i64 a0_13, .int .i64 a0_14, .bool a0_15, .bool a0_16, .string a0_17, .int .i64 a0_18, .slice A0_19 l0_19.length c0_19]) (t := 35) ?hr ?_; (case hd => rfl); (case hg => rfl); (case hr => first | (go_simp; done) | (go_simp; rfl)); intro gb120 hg w4 hbox hb; have n0_ := Aside0.mk (below_step (by repeat (first | (with_reducible first | exact HB.out | apply below_alloc | apply pw_below_drewN | apply below_drew1) | exact HB.out)) hb); have n1_ := Aside0.mk (hbox); have n2_ := Aside0.mk ((by rw [hg]; exact (below_size (by repeat (first | (with_reducible first | exact HB.out | apply below_alloc | apply pw_below_drewN | apply below_drew1) | exact HB.out))) : w.heap.size ≤ gb120)); have n3_ := Aside0.mk ((by rw [hg]; exact (below_size (by repeat (first | (with_reducible first | exact HB.out | apply below_alloc | apply pw_below_drewN | apply below_drew1) | exact HB.out))) : w.heap.size ≤ gb120)); clear HB; have HB := n0_; have BK120 := n1_; have GW120 := n2_; have GE120 := n3_; clear n0_ n1_ n2_ n3_; clear hb hbox hg) | ((with_reducible refine gate_dst (N := 3) rfl ?_); (try (refine gate_guard (by rfl) ?_; dsimp only)); refine box_event ?hg (N := 3) ?hd (cs := #[.int .i64 a1_0, .int .i64 a1_1, .int .i64 a1_2, .int .i64 a1_3, .string a1_4, .bool a1_5, .int .i64 a1_6, .string a1_7, .int .i64 a1_8, .int .i64 a1_9, .bool a1_10, .bool a1_11, .string a1_12, .int .i64 a1_13, .int .i64 a1_14, .bool a1_15, .bool a1_16, .string a1_17, .int .i64 a1_18, .slice A1_19 l1_19.length c1_19]) (t := 35) ?hr ?_; (case hd => rfl); (case hg => rfl); (case hr => first | (go_simp; done) | (go_simp; rfl)); intro gb121 hg w5 hbox hb; have n0_ := Aside0.mk (blk_below (g := gb120) (o := .cells #[.int .i64 a0_0, .int .i64 a0_1, .int .i64 a0_2, .int .i64 a0_3, .string a0_4, .bool a0_5, .int .i64 a0_6, .string a0_7, .int .i64 a0_8, .int .i64 a0_9, .bool a0_10, .bool a0_11, .string a0_12, .int .i64 a0_13, .int .i64 a0_14, .bool a0_15, .bool a0_16, .string a0_17, .int .i64 a0_18, .slice A0_19 l0_19.length c0_19] 35 (0, 0)) (by (with_reducible repeat (first | refine blk_drewN ?_ _ | refine blk_drew ?_ | refine blk_alloc ?_ _)); exact BK120.out) hb); have n1_ := Aside0.mk (below_step (by repeat (first | (with_reducible first | exact HB.out | apply below_alloc | apply pw_below_drewN | apply below_drew1 | refine below_set ?_ GE120.out) | exact HB.out)) hb); have n2_ := Aside0.mk (hbox); have n3_ := Aside0.mk ((by rw [hg]; exact (below_size (by repeat (first | (with_reducible first | exact HB.out | apply below_alloc | apply pw_below_drewN | apply below_drew1 | refine below_set ?_ GE120.out) | exact HB.out))) : w.heap.size ≤ gb121)); have n4_ := Aside0.mk ((by rw [hg]; exact (below_size (by repeat (first | (with_reducible first | exact HB.out | apply below_alloc | apply pw_below_drewN | apply below_drew1 | refine below_set ?_ GE120.out) | exact HB.out))) : w.heap.size ≤ gb121)); have n5_ := Aside0.mk ((by rw [hg]; exact Nat.ne_of_lt (blk_lt (g := gb120) (o := .cells #[.int .i64 a0_0, .int .i64 a0_1, .int .i64 a0_2, .int .i64 a0_3, .string a0_4, .bool a0_5, .int .i64 a0_6, .string a0_7, .int .i64 a0_8, .int .i64 a0_9, .bool a0_10, .bool a0_11, .string a0_12, .int .i64 a0_13, .int .i64 a0_14, .bool a0_15, .bool a0_16, .string a0_17, .int .i64 a0_18, .slice A0_19 l0_19.length c0_19] 35 (0, 0)) (by (with_reducible repeat (first | refine blk_drewN ?_ _ | refine blk_drew ?_ | refine blk_alloc ?_ _)); exact BK120.out)) : gb120 ≠ gb121)); have n6_ := Aside0.mk ((by rw [hg]; exact Nat.ne_of_gt (blk_lt (g := gb120) (o := .cells #[.int .i64 a0_0, .int .i64 a0_1, .int .i64 a0_2, .int .i64 a0_3, .string a0_4, .bool a0_5, .int .i64 a0_6, .string a0_7, .int .i64 a0_8, .int .i64 a0_9, .bool a0_10, .bool a0_11, .string a0_12, .int .i64 a0_13, .int .i64 a0_14, .bool a0_15, .bool a0_16, .string a0_17, .int .i64 a0_18, .slice A0_19 l0_19.length c0_19] 35 (0, 0)) (by (with_reducible repeat (first | refine blk_drewN ?_ _ | refine blk_drew ?_ | refine blk_alloc ?_ _)); exact BK120.out)) : gb121 ≠ gb120)); clear BK120; clear HB; have BK120 := n0_; have HB := n1_; have BK121 := n2_; have GW121 := n3_; have GE121 := n4_; have NB120_121 := n5_; have NB121_120 := n6_; clear n0_ n1_ n2_ n3_ n4_ n5_ n6_; clear hb hbox hg))
  (try simp only [Act.put, List.setIfInBounds_toArray, List.set_cons_zero, List.set_cons_succ])
  go_cut [54] (fun v54 wc => ∃ (kq : Nat) (x54_2 : Bool), v54 = .bool x54_2 ∧ Aside0 (quireref12_Same.j0 kq x54_2 a0_0 a0_1 a0_2 a0_3 a0_4 a0_5 a0_6 a0_7 a0_8 a0_9 a0_10 a0_11 a0_12 a0_13 a0_14 a0_15 a0_16 a0_17 a0_18 l0_19 a1_0 a1_1 a1_2 a1_3 a1_4 a1_5 a1_6 a1_7 a1_8 a1_9 a1_10 a1_11 a1_12 a1_13 a1_14 a1_15 a1_16 a1_17 a1_18 l1_19 = some r) ∧ Aside0 (kq ≤ k) ∧ Aside0 (wc.heap[gb120]? = some (.cells #[.int .i64 a0_0, .int .i64 a0_1, .int .i64 a0_2, .int .i64 a0_3, .string a0_4, .bool a0_5, .int .i64 a0_6, .string a0_7, .int .i64 a0_8, .int .i64 a0_9, .bool a0_10, .bool a0_11, .string a0_12, .int .i64 a0_13, .int .i64 a0_14, .bool a0_15, .bool a0_16, .string a0_17, .int .i64 a0_18, (.slice A0_19 l0_19.length c0_19)] 35 (0, 0))) ∧ Aside0 (wc.heap[gb121]? = some (.cells #[.int .i64 a1_0, .int .i64 a1_1, .int .i64 a1_2, .int .i64 a1_3, .string a1_4, .bool a1_5, .int .i64 a1_6, .string a1_7, .int .i64 a1_8, .int .i64 a1_9, .bool a1_10, .bool a1_11, .string a1_12, .int .i64 a1_13, .int .i64 a1_14, .bool a1_15, .bool a1_16, .string a1_17, .int .i64 a1_18, (.slice A1_19 l1_19.length c1_19)] 35 (0, 0))) ∧ Aside0 (Below w.heap.size w wc))
  case first =>
    have H := HC3.out
    clear HC3
    by_cases c6 : a0_0 = a1_0
    · rw [if_pos c6] at H
      have c6b0 : (a0_0 == a1_0) = true := beq_iff_eq.mpr c6
      have c6b1 : (a0_0 != a1_0) = false := bne_eq_false_iff_eq.mpr c6
      clear c6
      (first | rw [c6b0] | (simp only [i64_w, i32_w]; rw [c6b0]) | skip)
      by_cases c7 : (!(a0_1 == a1_1) || ((!(a0_2 == a1_2) || (!(a0_3 == a1_3))) || (!(a0_4.toList == a1_4.toList) || (!(a0_5 == a1_5) || (!(a0_6 == a1_6)))))) = true
      · rw [if_pos c7] at H
        have c7b0 : (!(a0_1 == a1_1) || ((!(a0_2 == a1_2) || (!(a0_3 == a1_3))) || (!(a0_4.toList == a1_4.toList) || (!(a0_5 == a1_5) || (!(a0_6 == a1_6)))))) = true := c7
        clear c7
        have H' := Aside0.mk H
        clear H
        have hnb8 := NB120_121.out
        have hnc8 := NB121_120.out
        obtain ⟨hcz9_0, hcz9_1, hcz9_2, hcz9_3, hcz9_4, hcz9_5, hcz9_6, hcz9_7, hcz9_8, hcz9_9, hcz9_10, hcz9_11, hcz9_12, hcz9_13, hcz9_14, hcz9_15, hcz9_16, hcz9_17, hcz9_18, hcz9_19⟩ := blk20 BK120.out
        obtain ⟨hfz9_0, hfz9_1, hfz9_2, hfz9_3, hfz9_4, hfz9_5, hfz9_6, hfz9_7, hfz9_8, hfz9_9, hfz9_10, hfz9_11, hfz9_12, hfz9_13, hfz9_14, hfz9_15, hfz9_16, hfz9_17, hfz9_18, hfz9_19⟩ := frz20 BK120.out
        obtain ⟨hcz10_0, hcz10_1, hcz10_2, hcz10_3, hcz10_4, hcz10_5, hcz10_6, hcz10_7, hcz10_8, hcz10_9, hcz10_10, hcz10_11, hcz10_12, hcz10_13, hcz10_14, hcz10_15, hcz10_16, hcz10_17, hcz10_18, hcz10_19⟩ := blk20 BK121.out
        obtain ⟨hfz10_0, hfz10_1, hfz10_2, hfz10_3, hfz10_4, hfz10_5, hfz10_6, hfz10_7, hfz10_8, hfz10_9, hfz10_10, hfz10_11, hfz10_12, hfz10_13, hfz10_14, hfz10_15, hfz10_16, hfz10_17, hfz10_18, hfz10_19⟩ := frz20 BK121.out
        go_wp2_with (first | ((with_reducible refine gate_load (t := 35) rfl ?_); (try (refine gate_guard (by first | rfl | (go_simp; done) | (go_simp; assumption)) ?_; dsimp only)); refine load_event20 rfl rfl (by first | rfl | (go_simp; done) | (go_simp; rfl)) Tryz.isAgg35 Tryz.sizeOf35 ?_))
        go_meet
        case rel => exact ⟨_, (true), (by first | rfl | (simp; done) | (simp [*]; done)), H', ⟨by first | omega | exact Nat.le_refl _⟩, ⟨by (with_reducible repeat (first | refine blk_drewN ?_ _ | refine blk_drew ?_ | refine blk_alloc ?_ _)); exact BK120.out⟩, ⟨by (with_reducible repeat (first | refine blk_drewN ?_ _ | refine blk_drew ?_ | refine blk_alloc ?_ _)); exact BK121.out⟩, ⟨by repeat (first | (with_reducible first | exact HB.out | apply below_alloc | apply pw_below_drewN | apply below_drew1 | refine below_set ?_ GE120.out | refine below_set ?_ GE121.out) | exact HB.out)⟩⟩
      · rw [if_neg c7] at H
        have c7b0 : (!(a0_1 == a1_1) || ((!(a0_2 == a1_2) || (!(a0_3 == a1_3))) || (!(a0_4.toList == a1_4.toList) || (!(a0_5 == a1_5) || (!(a0_6 == a1_6)))))) = false := by simpa using c7
        clear c7
        by_cases c11 : (!(a0_7.toList == a1_7.toList) || (!(a0_8 == a1_8) || (!(a0_9 == a1_9) || (!(a0_10 == a1_10) || (!(a0_11 == a1_11)))))) = true
        · rw [if_pos c11] at H
          have c11b0 : (!(a0_7.toList == a1_7.toList) || (!(a0_8 == a1_8) || (!(a0_9 == a1_9) || (!(a0_10 == a1_10) || (!(a0_11 == a1_11)))))) = true := c11
          clear c11
          have H' := Aside0.mk H
          clear H
          have hnb12 := NB120_121.out
          have hnc12 := NB121_120.out
          obtain ⟨hcz13_0, hcz13_1, hcz13_2, hcz13_3, hcz13_4, hcz13_5, hcz13_6, hcz13_7, hcz13_8, hcz13_9, hcz13_10, hcz13_11, hcz13_12, hcz13_13, hcz13_14, hcz13_15, hcz13_16, hcz13_17, hcz13_18, hcz13_19⟩ := blk20 BK120.out
          obtain ⟨hfz13_0, hfz13_1, hfz13_2, hfz13_3, hfz13_4, hfz13_5, hfz13_6, hfz13_7, hfz13_8, hfz13_9, hfz13_10, hfz13_11, hfz13_12, hfz13_13, hfz13_14, hfz13_15, hfz13_16, hfz13_17, hfz13_18, hfz13_19⟩ := frz20 BK120.out
          obtain ⟨hcz14_0, hcz14_1, hcz14_2, hcz14_3, hcz14_4, hcz14_5, hcz14_6, hcz14_7, hcz14_8, hcz14_9, hcz14_10, hcz14_11, hcz14_12, hcz14_13, hcz14_14, hcz14_15, hcz14_16, hcz14_17, hcz14_18, hcz14_19⟩ := blk20 BK121.out
          obtain ⟨hfz14_0, hfz14_1, hfz14_2, hfz14_3, hfz14_4, hfz14_5, hfz14_6, hfz14_7, hfz14_8, hfz14_9, hfz14_10, hfz14_11, hfz14_12, hfz14_13, hfz14_14, hfz14_15, hfz14_16, hfz14_17, hfz14_18, hfz14_19⟩ := frz20 BK121.out
          go_wp2_with (first | ((with_reducible refine gate_load (t := 35) rfl ?_); (try (refine gate_guard (by first | rfl | (go_simp; done) | (go_simp; assumption)) ?_; dsimp only)); refine load_event20 rfl rfl (by first | rfl | (go_simp; done) | (go_simp; rfl)) Tryz.isAgg35 Tryz.sizeOf35 ?_))
          go_meet
          case rel => exact ⟨_, (true), (by first | rfl | (simp; done) | (simp [*]; done)), H', ⟨by first | omega | exact Nat.le_refl _⟩, ⟨by (with_reducible repeat (first | refine blk_drewN ?_ _ | refine blk_drew ?_ | refine blk_alloc ?_ _)); exact BK120.out⟩, ⟨by (with_reducible repeat (first | refine blk_drewN ?_ _ | refine blk_drew ?_ | refine blk_alloc ?_ _)); exact BK121.out⟩, ⟨by repeat (first | (with_reducible first | exact HB.out | apply below_alloc | apply pw_below_drewN | apply below_drew1 | refine below_set ?_ GE120.out | refine below_set ?_ GE121.out) | exact HB.out)⟩⟩
        · rw [if_neg c11] at H
          have c11b0 : (!(a0_7.toList == a1_7.toList) || (!(a0_8 == a1_8) || (!(a0_9 == a1_9) || (!(a0_10 == a1_10) || (!(a0_11 == a1_11)))))) = false := by simpa using c11
          clear c11
          by_cases c15 : (!(a0_12.toList == a1_12.toList) || (!(a0_13 == a1_13) || (!(a0_14 == a1_14) || (!(a0_15 == a1_15) || (!(a0_16 == a1_16)))))) = true
          · rw [if_pos c15] at H
            have c15b0 : (!(a0_12.toList == a1_12.toList) || (!(a0_13 == a1_13) || (!(a0_14 == a1_14) || (!(a0_15 == a1_15) || (!(a0_16 == a1_16)))))) = true := c15
            clear c15
            have H' := Aside0.mk H
            clear H
            have hnb16 := NB120_121.out
            have hnc16 := NB121_120.out
            obtain ⟨hcz17_0, hcz17_1, hcz17_2, hcz17_3, hcz17_4, hcz17_5, hcz17_6, hcz17_7, hcz17_8, hcz17_9, hcz17_10, hcz17_11, hcz17_12, hcz17_13, hcz17_14, hcz17_15, hcz17_16, hcz17_17, hcz17_18, hcz17_19⟩ := blk20 BK120.out
            obtain ⟨hfz17_0, hfz17_1, hfz17_2, hfz17_3, hfz17_4, hfz17_5, hfz17_6, hfz17_7, hfz17_8, hfz17_9, hfz17_10, hfz17_11, hfz17_12, hfz17_13, hfz17_14, hfz17_15, hfz17_16, hfz17_17, hfz17_18, hfz17_19⟩ := frz20 BK120.out
            obtain ⟨hcz18_0, hcz18_1, hcz18_2, hcz18_3, hcz18_4, hcz18_5, hcz18_6, hcz18_7, hcz18_8, hcz18_9, hcz18_10, hcz18_11, hcz18_12, hcz18_13, hcz18_14, hcz18_15, hcz18_16, hcz18_17, hcz18_18, hcz18_19⟩ := blk20 BK121.out
            obtain ⟨hfz18_0, hfz18_1, hfz18_2, hfz18_3, hfz18_4, hfz18_5, hfz18_6, hfz18_7, hfz18_8, hfz18_9, hfz18_10, hfz18_11, hfz18_12, hfz18_13, hfz18_14, hfz18_15, hfz18_16, hfz18_17, hfz18_18, hfz18_19⟩ := frz20 BK121.out
            go_wp2_with (first | ((with_reducible refine gate_load (t := 35) rfl ?_); (try (refine gate_guard (by first | rfl | (go_simp; done) | (go_simp; assumption)) ?_; dsimp only)); refine load_event20 rfl rfl (by first | rfl | (go_simp; done) | (go_simp; rfl)) Tryz.isAgg35 Tryz.sizeOf35 ?_))
            go_meet
            case rel => exact ⟨_, (true), (by first | rfl | (simp; done) | (simp [*]; done)), H', ⟨by first | omega | exact Nat.le_refl _⟩, ⟨by (with_reducible repeat (first | refine blk_drewN ?_ _ | refine blk_drew ?_ | refine blk_alloc ?_ _)); exact BK120.out⟩, ⟨by (with_reducible repeat (first | refine blk_drewN ?_ _ | refine blk_drew ?_ | refine blk_alloc ?_ _)); exact BK121.out⟩, ⟨by repeat (first | (with_reducible first | exact HB.out | apply below_alloc | apply pw_below_drewN | apply below_drew1 | refine below_set ?_ GE120.out | refine below_set ?_ GE121.out) | exact HB.out)⟩⟩
          · rw [if_neg c15] at H
            have c15b0 : (!(a0_12.toList == a1_12.toList) || (!(a0_13 == a1_13) || (!(a0_14 == a1_14) || (!(a0_15 == a1_15) || (!(a0_16 == a1_16)))))) = false := by simpa using c15
            clear c15
            by_cases c19 : a0_17.toList = a1_17.toList
            · rw [if_pos c19] at H
              have c19b0 : (a0_17.toList == a1_17.toList) = true := beq_iff_eq.mpr c19
              have c19b1 : (a0_17.toList != a1_17.toList) = false := bne_eq_false_iff_eq.mpr c19
              clear c19
              by_cases c20 : a0_18 = a1_18
              · rw [if_pos c20] at H
                have c20b0 : (a0_18 == a1_18) = true := beq_iff_eq.mpr c20
                have c20b1 : (a0_18 != a1_18) = false := bne_eq_false_iff_eq.mpr c20
                clear c20
                have H' := Aside0.mk H
                clear H
                have hnb21 := NB120_121.out
                have hnc21 := NB121_120.out
                obtain ⟨hcz22_0, hcz22_1, hcz22_2, hcz22_3, hcz22_4, hcz22_5, hcz22_6, hcz22_7, hcz22_8, hcz22_9, hcz22_10, hcz22_11, hcz22_12, hcz22_13, hcz22_14, hcz22_15, hcz22_16, hcz22_17, hcz22_18, hcz22_19⟩ := blk20 BK120.out
                obtain ⟨hfz22_0, hfz22_1, hfz22_2, hfz22_3, hfz22_4, hfz22_5, hfz22_6, hfz22_7, hfz22_8, hfz22_9, hfz22_10, hfz22_11, hfz22_12, hfz22_13, hfz22_14, hfz22_15, hfz22_16, hfz22_17, hfz22_18, hfz22_19⟩ := frz20 BK120.out
                obtain ⟨hcz23_0, hcz23_1, hcz23_2, hcz23_3, hcz23_4, hcz23_5, hcz23_6, hcz23_7, hcz23_8, hcz23_9, hcz23_10, hcz23_11, hcz23_12, hcz23_13, hcz23_14, hcz23_15, hcz23_16, hcz23_17, hcz23_18, hcz23_19⟩ := blk20 BK121.out
                obtain ⟨hfz23_0, hfz23_1, hfz23_2, hfz23_3, hfz23_4, hfz23_5, hfz23_6, hfz23_7, hfz23_8, hfz23_9, hfz23_10, hfz23_11, hfz23_12, hfz23_13, hfz23_14, hfz23_15, hfz23_16, hfz23_17, hfz23_18, hfz23_19⟩ := frz20 BK121.out
                go_wp2_with (first | ((with_reducible refine gate_load (t := 35) rfl ?_); (try (refine gate_guard (by first | rfl | (go_simp; done) | (go_simp; assumption)) ?_; dsimp only)); refine load_event20 rfl rfl (by first | rfl | (go_simp; done) | (go_simp; rfl)) Tryz.isAgg35 Tryz.sizeOf35 ?_))
                go_meet
                case rel => exact ⟨_, (((l0_19.length : Int) != (l1_19.length : Int))), (by first | rfl | (simp; done) | (simp [*]; done)), H', ⟨by first | omega | exact Nat.le_refl _⟩, ⟨by (with_reducible repeat (first | refine blk_drewN ?_ _ | refine blk_drew ?_ | refine blk_alloc ?_ _)); exact BK120.out⟩, ⟨by (with_reducible repeat (first | refine blk_drewN ?_ _ | refine blk_drew ?_ | refine blk_alloc ?_ _)); exact BK121.out⟩, ⟨by repeat (first | (with_reducible first | exact HB.out | apply below_alloc | apply pw_below_drewN | apply below_drew1 | refine below_set ?_ GE120.out | refine below_set ?_ GE121.out) | exact HB.out)⟩⟩
              · rw [if_neg c20] at H
                have c20b0 : (a0_18 == a1_18) = false := beq_eq_false_iff_ne.mpr c20
                have c20b1 : (a0_18 != a1_18) = true := bne_iff_ne.mpr c20
                have H' := Aside0.mk H
                clear H
                have hnb24 := NB120_121.out
                have hnc24 := NB121_120.out
                obtain ⟨hcz25_0, hcz25_1, hcz25_2, hcz25_3, hcz25_4, hcz25_5, hcz25_6, hcz25_7, hcz25_8, hcz25_9, hcz25_10, hcz25_11, hcz25_12, hcz25_13, hcz25_14, hcz25_15, hcz25_16, hcz25_17, hcz25_18, hcz25_19⟩ := blk20 BK120.out
                obtain ⟨hfz25_0, hfz25_1, hfz25_2, hfz25_3, hfz25_4, hfz25_5, hfz25_6, hfz25_7, hfz25_8, hfz25_9, hfz25_10, hfz25_11, hfz25_12, hfz25_13, hfz25_14, hfz25_15, hfz25_16, hfz25_17, hfz25_18, hfz25_19⟩ := frz20 BK120.out
                obtain ⟨hcz26_0, hcz26_1, hcz26_2, hcz26_3, hcz26_4, hcz26_5, hcz26_6, hcz26_7, hcz26_8, hcz26_9, hcz26_10, hcz26_11, hcz26_12, hcz26_13, hcz26_14, hcz26_15, hcz26_16, hcz26_17, hcz26_18, hcz26_19⟩ := blk20 BK121.out
                obtain ⟨hfz26_0, hfz26_1, hfz26_2, hfz26_3, hfz26_4, hfz26_5, hfz26_6, hfz26_7, hfz26_8, hfz26_9, hfz26_10, hfz26_11, hfz26_12, hfz26_13, hfz26_14, hfz26_15, hfz26_16, hfz26_17, hfz26_18, hfz26_19⟩ := frz20 BK121.out
                go_wp2_with (first | ((with_reducible refine gate_load (t := 35) rfl ?_); (try (refine gate_guard (by first | rfl | (go_simp; done) | (go_simp; assumption)) ?_; dsimp only)); refine load_event20 rfl rfl (by first | rfl | (go_simp; done) | (go_simp; rfl)) Tryz.isAgg35 Tryz.sizeOf35 ?_))
                go_meet
                case rel => exact ⟨_, (true), (by first | rfl | (simp; done) | (simp [*]; done)), H', ⟨by first | omega | exact Nat.le_refl _⟩, ⟨by (with_reducible repeat (first | refine blk_drewN ?_ _ | refine blk_drew ?_ | refine blk_alloc ?_ _)); exact BK120.out⟩, ⟨by (with_reducible repeat (first | refine blk_drewN ?_ _ | refine blk_drew ?_ | refine blk_alloc ?_ _)); exact BK121.out⟩, ⟨by repeat (first | (with_reducible first | exact HB.out | apply below_alloc | apply pw_below_drewN | apply below_drew1 | refine below_set ?_ GE120.out | refine below_set ?_ GE121.out) | exact HB.out)⟩⟩
            · rw [if_neg c19] at H
              have c19b0 : (a0_17.toList == a1_17.toList) = false := beq_eq_false_iff_ne.mpr c19
              have c19b1 : (a0_17.toList != a1_17.toList) = true := bne_iff_ne.mpr c19
              have H' := Aside0.mk H
              clear H
              have hnb27 := NB120_121.out
              have hnc27 := NB121_120.out
              obtain ⟨hcz28_0, hcz28_1, hcz28_2, hcz28_3, hcz28_4, hcz28_5, hcz28_6, hcz28_7, hcz28_8, hcz28_9, hcz28_10, hcz28_11, hcz28_12, hcz28_13, hcz28_14, hcz28_15, hcz28_16, hcz28_17, hcz28_18, hcz28_19⟩ := blk20 BK120.out
              obtain ⟨hfz28_0, hfz28_1, hfz28_2, hfz28_3, hfz28_4, hfz28_5, hfz28_6, hfz28_7, hfz28_8, hfz28_9, hfz28_10, hfz28_11, hfz28_12, hfz28_13, hfz28_14, hfz28_15, hfz28_16, hfz28_17, hfz28_18, hfz28_19⟩ := frz20 BK120.out
              obtain ⟨hcz29_0, hcz29_1, hcz29_2, hcz29_3, hcz29_4, hcz29_5, hcz29_6, hcz29_7, hcz29_8, hcz29_9, hcz29_10, hcz29_11, hcz29_12, hcz29_13, hcz29_14, hcz29_15, hcz29_16, hcz29_17, hcz29_18, hcz29_19⟩ := blk20 BK121.out
              obtain ⟨hfz29_0, hfz29_1, hfz29_2, hfz29_3, hfz29_4, hfz29_5, hfz29_6, hfz29_7, hfz29_8, hfz29_9, hfz29_10, hfz29_11, hfz29_12, hfz29_13, hfz29_14, hfz29_15, hfz29_16, hfz29_17, hfz29_18, hfz29_19⟩ := frz20 BK121.out
              go_wp2_with (first | ((with_reducible refine gate_load (t := 35) rfl ?_); (try (refine gate_guard (by first | rfl | (go_simp; done) | (go_simp; assumption)) ?_; dsimp only)); refine load_event20 rfl rfl (by first | rfl | (go_simp; done) | (go_simp; rfl)) Tryz.isAgg35 Tryz.sizeOf35 ?_))
              go_meet
              case rel => exact ⟨_, (true), (by first | rfl | (simp; done) | (simp [*]; done)), H', ⟨by first | omega | exact Nat.le_refl _⟩, ⟨by (with_reducible repeat (first | refine blk_drewN ?_ _ | refine blk_drew ?_ | refine blk_alloc ?_ _)); exact BK120.out⟩, ⟨by (with_reducible repeat (first | refine blk_drewN ?_ _ | refine blk_drew ?_ | refine blk_alloc ?_ _)); exact BK121.out⟩, ⟨by repeat (first | (with_reducible first | exact HB.out | apply below_alloc | apply pw_below_drewN | apply below_drew1 | refine below_set ?_ GE120.out | refine below_set ?_ GE121.out) | exact HB.out)⟩⟩
    · rw [if_neg c6] at H
      have c6b0 : (a0_0 == a1_0) = false := beq_eq_false_iff_ne.mpr c6
      have c6b1 : (a0_0 != a1_0) = true := bne_iff_ne.mpr c6
      (first | rw [c6b0] | (simp only [i64_w, i32_w]; rw [c6b0]) | skip)
      have H' := Aside0.mk H
      clear H
      have hnb30 := NB120_121.out
      have hnc30 := NB121_120.out
      obtain ⟨hcz31_0, hcz31_1, hcz31_2, hcz31_3, hcz31_4, hcz31_5, hcz31_6, hcz31_7, hcz31_8, hcz31_9, hcz31_10, hcz31_11, hcz31_12, hcz31_13, hcz31_14, hcz31_15, hcz31_16, hcz31_17, hcz31_18, hcz31_19⟩ := blk20 BK120.out
      obtain ⟨hfz31_0, hfz31_1, hfz31_2, hfz31_3, hfz31_4, hfz31_5, hfz31_6, hfz31_7, hfz31_8, hfz31_9, hfz31_10, hfz31_11, hfz31_12, hfz31_13, hfz31_14, hfz31_15, hfz31_16, hfz31_17, hfz31_18, hfz31_19⟩ := frz20 BK120.out
      obtain ⟨hcz32_0, hcz32_1, hcz32_2, hcz32_3, hcz32_4, hcz32_5, hcz32_6, hcz32_7, hcz32_8, hcz32_9, hcz32_10, hcz32_11, hcz32_12, hcz32_13, hcz32_14, hcz32_15, hcz32_16, hcz32_17, hcz32_18, hcz32_19⟩ := blk20 BK121.out
      obtain ⟨hfz32_0, hfz32_1, hfz32_2, hfz32_3, hfz32_4, hfz32_5, hfz32_6, hfz32_7, hfz32_8, hfz32_9, hfz32_10, hfz32_11, hfz32_12, hfz32_13, hfz32_14, hfz32_15, hfz32_16, hfz32_17, hfz32_18, hfz32_19⟩ := frz20 BK121.out
      go_wp2_with (first | ((with_reducible refine gate_load (t := 35) rfl ?_); (try (refine gate_guard (by first | rfl | (go_simp; done) | (go_simp; assumption)) ?_; dsimp only)); refine load_event20 rfl rfl (by first | rfl | (go_simp; done) | (go_simp; rfl)) Tryz.isAgg35 Tryz.sizeOf35 ?_))
      go_meet
      case rel => exact ⟨_, (true), (by first | rfl | (simp; done) | (simp [*]; done)), H', ⟨by first | omega | exact Nat.le_refl _⟩, ⟨by (with_reducible repeat (first | refine blk_drewN ?_ _ | refine blk_drew ?_ | refine blk_alloc ?_ _)); exact BK120.out⟩, ⟨by (with_reducible repeat (first | refine blk_drewN ?_ _ | refine blk_drew ?_ | refine blk_alloc ?_ _)); exact BK121.out⟩, ⟨by repeat (first | (with_reducible first | exact HB.out | apply below_alloc | apply pw_below_drewN | apply below_drew1 | refine below_set ?_ GE120.out | refine below_set ?_ GE121.out) | exact HB.out)⟩⟩
  case rest =>
    clear HC3
    try clear c1
    try clear c2
    try clear p2
    try clear c3
    try clear c6
    try clear c6b0
    try clear c6b1
    try clear c7
    try clear c7b0
    try clear c11
    try clear c11b0
    try clear c12
    try clear c15
    try clear c15b0
    try clear c16
    try clear c19
    try clear c19b0
    try clear c19b1
    try clear c20
    try clear c20b0
    try clear c20b1
    try clear c21
    try clear c24
    try clear c27
    try clear c30
    try clear hcz10_10
    try clear hcz10_11
    try clear hcz10_12
    try clear hcz10_13
    try clear hcz10_14
    try clear hcz10_15
    try clear hcz10_16
    try clear hcz10_17
    try clear hcz10_18
    try clear hcz10_19
    try clear hcz10_4
    try clear hcz10_5
    try clear hcz10_6
    try clear hcz10_7
    try clear hcz10_8
    try clear hcz10_9
    try clear hcz13_0
    try clear hcz13_1
    try clear hcz13_10
    try clear hcz13_11
    try clear hcz13_12
    try clear hcz13_13
    try clear hcz13_14
    try clear hcz13_15
    try clear hcz13_16
    try clear hcz13_17
    try clear hcz13_18
    try clear hcz13_19
    try clear hcz13_2
    try clear hcz13_3
    try clear hcz13_4
    try clear hcz13_5
    try clear hcz13_6
    try clear hcz13_7
    try clear hcz13_8
    try clear hcz13_9
    try clear hcz14_0
    try clear hcz14_1
    try clear hcz14_10
    try clear hcz14_11
    try clear hcz14_12
    try clear hcz14_13
    try clear hcz14_14
    try clear hcz14_15
    try clear hcz14_16
    try clear hcz14_17
    try clear hcz14_18
    try clear hcz14_19
    try clear hcz14_2
    try clear hcz14_3
    try clear hcz14_4
    try clear hcz14_5
    try clear hcz14_6
    try clear hcz14_7
    try clear hcz14_8
    try clear hcz14_9
    try clear hcz17_0
    try clear hcz17_1
    try clear hcz17_10
    try clear hcz17_11
    try clear hcz17_12
    try clear hcz17_13
    try clear hcz17_14
    try clear hcz17_15
    try clear hcz17_16
    try clear hcz17_17
    try clear hcz17_18
    try clear hcz17_19
    try clear hcz17_2
    try clear hcz17_3
    try clear hcz17_4
    try clear hcz17_5
    try clear hcz17_6
    try clear hcz17_7
    try clear hcz17_8
    try clear hcz17_9
    try clear hcz18_0
    try clear hcz18_1
    try clear hcz18_10
    try clear hcz18_11
    try clear hcz18_12
    try clear hcz18_13
    try clear hcz18_14
    try clear hcz18_15
    try clear hcz18_16
    try clear hcz18_17
    try clear hcz18_18
    try clear hcz18_19
    try clear hcz18_2
    try clear hcz18_3
    try clear hcz18_4
    try clear hcz18_5
    try clear hcz18_6
    try clear hcz18_7
    try clear hcz18_8
    try clear hcz18_9
    try clear hcz22_0
    try clear hcz22_1
    try clear hcz22_10
    try clear hcz22_11
    try clear hcz22_12
    try clear hcz22_13
    try clear hcz22_14
    try clear hcz22_15
    try clear hcz22_16
    try clear hcz22_17
    try clear hcz22_18
    try clear hcz22_19
    try clear hcz22_2
    try clear hcz22_3
    try clear hcz22_4
    try clear hcz22_5
    try clear hcz22_6
    try clear hcz22_7
    try clear hcz22_8
    try clear hcz22_9
    try clear hcz23_0
    try clear hcz23_1
    try clear hcz23_10
    try clear hcz23_11
    try clear hcz23_12
    try clear hcz23_13
    try clear hcz23_14
    try clear hcz23_15
    try clear hcz23_16
    try clear hcz23_17
    try clear hcz23_18
    try clear hcz23_19
    try clear hcz23_2
    try clear hcz23_3
    try clear hcz23_4
    try clear hcz23_5
    try clear hcz23_6
    try clear hcz23_7
    try clear hcz23_8
    try clear hcz23_9
    try clear hcz25_0
    try clear hcz25_1
    try clear hcz25_10
    try clear hcz25_11
    try clear hcz25_12
    try clear hcz25_13
    try clear hcz25_14
    try clear hcz25_15
    try clear hcz25_16
    try clear hcz25_17
    try clear hcz25_18
    try clear hcz25_19
    try clear hcz25_2
    try clear hcz25_3
    try clear hcz25_4
    try clear hcz25_5
    try clear hcz25_6
    try clear hcz25_7
    try clear hcz25_8
    try clear hcz25_9
    try clear hcz26_0
    try clear hcz26_1
    try clear hcz26_10
    try clear hcz26_11
    try clear hcz26_12
    try clear hcz26_13
    try clear hcz26_14
    try clear hcz26_15
    try clear hcz26_16
    try clear hcz26_17
    try clear hcz26_18
    try clear hcz26_19
    try clear hcz26_2
    try clear hcz26_3
    try clear hcz26_4
    try clear hcz26_5
    try clear hcz26_6
    try clear hcz26_7
    try clear hcz26_8
    try clear hcz26_9
    try clear hcz28_0
    try clear hcz28_1
    try clear hcz28_10
    try clear hcz28_11
    try clear hcz28_12
    try clear hcz28_13
    try clear hcz28_14
    try clear hcz28_15
    try clear hcz28_16
    try clear hcz28_17
    try clear hcz28_18
    try clear hcz28_19
    try clear hcz28_2
    try clear hcz28_3
    try clear hcz28_4
    try clear hcz28_5
    try clear hcz28_6
    try clear hcz28_7
    try clear hcz28_8
    try clear hcz28_9
    try clear hcz29_0
    try clear hcz29_1
    try clear hcz29_10
    try clear hcz29_11
    try clear hcz29_12
    try clear hcz29_13
    try clear hcz29_14
    try clear hcz29_15
    try clear hcz29_16
    try clear hcz29_17
    try clear hcz29_18
    try clear hcz29_19
    try clear hcz29_2
    try clear hcz29_3
    try clear hcz29_4
    try clear hcz29_5
    try clear hcz29_6
    try clear hcz29_7
    try clear hcz29_8
    try clear hcz29_9
    try clear hcz31_0
    try clear hcz31_1
    try clear hcz31_10
    try clear hcz31_11
    try clear hcz31_12
    try clear hcz31_13
    try clear hcz31_14
    try clear hcz31_15
    try clear hcz31_16
    try clear hcz31_17
    try clear hcz31_18
    try clear hcz31_19
    try clear hcz31_2
    try clear hcz31_3
    try clear hcz31_4
    try clear hcz31_5
    try clear hcz31_6
    try clear hcz31_7
    try clear hcz31_8
    try clear hcz31_9
    try clear hcz32_0
    try clear hcz32_1
    try clear hcz32_10
    try clear hcz32_11
    try clear hcz32_12
    try clear hcz32_13
    try clear hcz32_14
    try clear hcz32_15
    try clear hcz32_16
    try clear hcz32_17
    try clear hcz32_18
    try clear hcz32_19
    try clear hcz32_2
    try clear hcz32_3
    try clear hcz32_4
    try clear hcz32_5
    try clear hcz32_6
    try clear hcz32_7
    try clear hcz32_8
    try clear hcz32_9
    try clear hfz10_0
    try clear hfz10_1
    try clear hfz10_10
    try clear hfz10_11
    try clear hfz10_12
    try clear hfz10_13
    try clear hfz10_14
    try clear hfz10_15
    try clear hfz10_16
    try clear hfz10_17
    try clear hfz10_18
    try clear hfz10_19
    try clear hfz10_2
    try clear hfz10_3
    try clear hfz10_4
    try clear hfz10_5
    try clear hfz10_6
    try clear hfz10_7
    try clear hfz10_8
    try clear hfz10_9
    try clear hfz13_0
    try clear hfz13_1
    try clear hfz13_10
    try clear hfz13_11
    try clear hfz13_12
    try clear hfz13_13
    try clear hfz13_14
    try clear hfz13_15
    try clear hfz13_16
    try clear hfz13_17
    try clear hfz13_18
    try clear hfz13_19
    try clear hfz13_2
    try clear hfz13_3
    try clear hfz13_4
    try clear hfz13_5
    try clear hfz13_6
    try clear hfz13_7
    try clear hfz13_8
    try clear hfz13_9
    try clear hfz14_0
    try clear hfz14_1
    try clear hfz14_10
    try clear hfz14_11
    try clear hfz14_12
    try clear hfz14_13
    try clear hfz14_14
    try clear hfz14_15
    try clear hfz14_16
    try clear hfz14_17
    try clear hfz14_18
    try clear hfz14_19
    try clear hfz14_2
    try clear hfz14_3
    try clear hfz14_4
    try clear hfz14_5
    try clear hfz14_6
    try clear hfz14_7
    try clear hfz14_8
    try clear hfz14_9
    try clear hfz17_0
    try clear hfz17_1
    try clear hfz17_10
    try clear hfz17_11
    try clear hfz17_12
    try clear hfz17_13
    try clear hfz17_14
    try clear hfz17_15
    try clear hfz17_16
    try clear hfz17_17
    try clear hfz17_18
    try clear hfz17_19
    try clear hfz17_2
    try clear hfz17_3
    try clear hfz17_4
    try clear hfz17_5
    try clear hfz17_6
    try clear hfz17_7
    try clear hfz17_8
    try clear hfz17_9
    try clear hfz18_0
    try clear hfz18_1
    try clear hfz18_10
    try clear hfz18_11
    try clear hfz18_12
    try clear hfz18_13
    try clear hfz18_14
    try clear hfz18_15
    try clear hfz18_16
    try clear hfz18_17
    try clear hfz18_18
    try clear hfz18_19
    try clear hfz18_2
    try clear hfz18_3
    try clear hfz18_4
    try clear hfz18_5
    try clear hfz18_6
    try clear hfz18_7
    try clear hfz18_8
    try clear hfz18_9
    try clear hfz22_0
    try clear hfz22_1
    try clear hfz22_10
    try clear hfz22_11
    try clear hfz22_12
    try clear hfz22_13
    try clear hfz22_14
    try clear hfz22_15
    try clear hfz22_16
    try clear hfz22_17
    try clear hfz22_18
    try clear hfz22_19
    try clear hfz22_2
    try clear hfz22_3
    try clear hfz22_4
    try clear hfz22_5
    try clear hfz22_6
    try clear hfz22_7
    try clear hfz22_8
    try clear hfz22_9
    try clear hfz23_0
    try clear hfz23_1
    try clear hfz23_10
    try clear hfz23_11
    try clear hfz23_12
    try clear hfz23_13
    try clear hfz23_14
    try clear hfz23_15
    try clear hfz23_16
    try clear hfz23_17
    try clear hfz23_18
    try clear hfz23_19
    try clear hfz23_2
    try clear hfz23_3
    try clear hfz23_4
    try clear hfz23_5
    try clear hfz23_6
    try clear hfz23_7
    try clear hfz23_8
    try clear hfz23_9
    try clear hfz25_0
    try clear hfz25_1
    try clear hfz25_10
    try clear hfz25_11
    try clear hfz25_12
    try clear hfz25_13
    try clear hfz25_14
    try clear hfz25_15
    try clear hfz25_16
    try clear hfz25_17
    try clear hfz25_18
    try clear hfz25_19
    try clear hfz25_2
    try clear hfz25_3
    try clear hfz25_4
    try clear hfz25_5
    try clear hfz25_6
    try clear hfz25_7
    try clear hfz25_8
    try clear hfz25_9
    try clear hfz26_0
    try clear hfz26_1
    try clear hfz26_10
    try clear hfz26_11
    try clear hfz26_12
    try clear hfz26_13
    try clear hfz26_14
    try clear hfz26_15
    try clear hfz26_16
    try clear hfz26_17
    try clear hfz26_18
    try clear hfz26_19
    try clear hfz26_2
    try clear hfz26_3
    try clear hfz26_4
    try clear hfz26_5
    try clear hfz26_6
    try clear hfz26_7
    try clear hfz26_8
    try clear hfz26_9
    try clear hfz28_0
    try clear hfz28_1
    try clear hfz28_10
    try clear hfz28_11
    try clear hfz28_12
    try clear hfz28_13
    try clear hfz28_14
    try clear hfz28_15
    try clear hfz28_16
    try clear hfz28_17
    try clear hfz28_18
    try clear hfz28_19
    try clear hfz28_2
    try clear hfz28_3
    try clear hfz28_4
    try clear hfz28_5
    try clear hfz28_6
    try clear hfz28_7
    try clear hfz28_8
    try clear hfz28_9
    try clear hfz29_0
    try clear hfz29_1
    try clear hfz29_10
    try clear hfz29_11
    try clear hfz29_12
    try clear hfz29_13
    try clear hfz29_14
    try clear hfz29_15
    try clear hfz29_16
    try clear hfz29_17
    try clear hfz29_18
    try clear hfz29_19
    try clear hfz29_2
    try clear hfz29_3
    try clear hfz29_4
    try clear hfz29_5
    try clear hfz29_6
    try clear hfz29_7
    try clear hfz29_8
    try clear hfz29_9
    try clear hfz31_0
    try clear hfz31_1
    try clear hfz31_10
    try clear hfz31_11
    try clear hfz31_12
    try clear hfz31_13
    try clear hfz31_14
    try clear hfz31_15
    try clear hfz31_16
    try clear hfz31_17
    try clear hfz31_18
    try clear hfz31_19
    try clear hfz31_2
    try clear hfz31_3
    try clear hfz31_4
    try clear hfz31_5
    try clear hfz31_6
    try clear hfz31_7
    try clear hfz31_8
    try clear hfz31_9
    try clear hfz32_0
    try clear hfz32_1
    try clear hfz32_10
    try clear hfz32_11
    try clear hfz32_12
    try clear hfz32_13
    try clear hfz32_14
    try clear hfz32_15
    try clear hfz32_16
    try clear hfz32_17
    try clear hfz32_18
    try clear hfz32_19
    try clear hfz32_2
    try clear hfz32_3
    try clear hfz32_4
    try clear hfz32_5
    try clear hfz32_6
    try clear hfz32_7
    try clear hfz32_8
    try clear hfz32_9
    obtain ⟨kq, x54_2, rfl, HA, HJ2, BK120, BK121, HB⟩ := hcut
    cases kq with
    | zero => exact absurd HA.out (by simp [quireref12_Same.j0])
    | succ kj2 =>
      have H := HA.out
      clear HA
      simp only [quireref12_Same.j0] at H
      by_cases c33 : x54_2 = true
      · subst c33
        have H1 : (some false) = some r := by rw [if_pos rfl] at H; exact H
        clear H
        have H := H1
        clear H1
        obtain rfl := Option.some.inj H
        go_wp2_with (first | ((with_reducible refine gate_load (t := 35) rfl ?_); (try (refine gate_guard (by first | rfl | (go_simp; done) | (go_simp; assumption)) ?_; dsimp only)); refine load_event20 rfl rfl (by first | rfl | (go_simp; done) | (go_simp; rfl)) Tryz.isAgg35 Tryz.sizeOf35 ?_))
        go_ret
        exact ⟨by first | rfl | (simp [errW_none, errW_some] <;> rfl) | (simp [*, errW_none, errW_some] <;> rfl), by repeat (first | (with_reducible first | exact HB.out | apply below_alloc | apply pw_below_drewN | apply below_drew1 | refine below_set ?_ GE120.out | refine below_set ?_ GE121.out) | exact HB.out)⟩
      · replace c33 := Bool.eq_false_iff.mpr c33
        subst c33
        have H1 : (quireref12_Same.l0 kj2 0 a0_0 a0_1 a0_2 a0_3 a0_4 a0_5 a0_6 a0_7 a0_8 a0_9 a0_10 a0_11 a0_12 a0_13 a0_14 a0_15 a0_16 a0_17 a0_18 l0_19 a1_0 a1_1 a1_2 a1_3 a1_4 a1_5 a1_6 a1_7 a1_8 a1_9 a1_10 a1_11 a1_12 a1_13 a1_14 a1_15 a1_16 a1_17 a1_18 l1_19) = some r := by rw [if_neg (show ¬ (false = true) by decide)] at H; exact H
        clear H
        have H := H1
        clear H1
        have H' := Aside0.mk H
        clear H
        go_wp2_with (first | ((with_reducible refine gate_load (t := 35) rfl ?_); (try (refine gate_guard (by first | rfl | (go_simp; done) | (go_simp; assumption)) ?_; dsimp only)); refine load_event20 rfl rfl (by first | rfl | (go_simp; done) | (go_simp; rfl)) Tryz.isAgg35 Tryz.sizeOf35 ?_))
        go_loopg [5] kj2 (fun kq v5 w' => ∃ (x5_2 : Int), v5 = .int .i64 x5_2 ∧ Aside0 (quireref12_Same.l0 kq x5_2 a0_0 a0_1 a0_2 a0_3 a0_4 a0_5 a0_6 a0_7 a0_8 a0_9 a0_10 a0_11 a0_12 a0_13 a0_14 a0_15 a0_16 a0_17 a0_18 l0_19 a1_0 a1_1 a1_2 a1_3 a1_4 a1_5 a1_6 a1_7 a1_8 a1_9 a1_10 a1_11 a1_12 a1_13 a1_14 a1_15 a1_16 a1_17 a1_18 l1_19 = some r) ∧ Aside0 (kq ≤ kj2) ∧ Aside0 (w'.heap[gb120]? = some (.cells #[.int .i64 a0_0, .int .i64 a0_1, .int .i64 a0_2, .int .i64 a0_3, .string a0_4, .bool a0_5, .int .i64 a0_6, .string a0_7, .int .i64 a0_8, .int .i64 a0_9, .bool a0_10, .bool a0_11, .string a0_12, .int .i64 a0_13, .int .i64 a0_14, .bool a0_15, .bool a0_16, .string a0_17, .int .i64 a0_18, (.slice A0_19 l0_19.length c0_19)] 35 (0, 0))) ∧ Aside0 (w'.heap[gb121]? = some (.cells #[.int .i64 a1_0, .int .i64 a1_1, .int .i64 a1_2, .int .i64 a1_3, .string a1_4, .bool a1_5, .int .i64 a1_6, .string a1_7, .int .i64 a1_8, .int .i64 a1_9, .bool a1_10, .bool a1_11, .string a1_12, .int .i64 a1_13, .int .i64 a1_14, .bool a1_15, .bool a1_16, .string a1_17, .int .i64 a1_18, (.slice A1_19 l1_19.length c1_19)] 35 (0, 0))) ∧ Aside0 (Below w.heap.size w w'))
        case atStart => exact ⟨(0), (by first | rfl | (simp; done) | (simp [*]; done)), H', ⟨Nat.le_refl _⟩, ⟨by (with_reducible repeat (first | refine blk_drewN ?_ _ | refine blk_drew ?_ | refine blk_alloc ?_ _)); exact BK120.out⟩, ⟨by (with_reducible repeat (first | refine blk_drewN ?_ _ | refine blk_drew ?_ | refine blk_alloc ?_ _)); exact BK121.out⟩, ⟨by repeat (first | (with_reducible first | exact HB.out | apply below_alloc | apply pw_below_drewN | apply below_drew1 | refine below_set ?_ GE120.out | refine below_set ?_ GE121.out) | exact HB.out)⟩⟩
        case round =>
          clear H'
          try clear c1
          try clear c2
          try clear p2
          try clear c3
          try clear c6
          try clear c6b0
          try clear c6b1
          try clear c7
          try clear c7b0
          try clear c11
          try clear c11b0
          try clear c12
          try clear c15
          try clear c15b0
          try clear c16
          try clear c19
          try clear c19b0
          try clear c19b1
          try clear c20
          try clear c20b0
          try clear c20b1
          try clear c21
          try clear c24
          try clear c27
          try clear c30
          try clear c33
          try clear hcz10_10
          try clear hcz10_11
          try clear hcz10_12
          try clear hcz10_13
          try clear hcz10_14
          try clear hcz10_15
          try clear hcz10_16
          try clear hcz10_17
          try clear hcz10_18
          try clear hcz10_19
          try clear hcz10_4
          try clear hcz10_5
          try clear hcz10_6
          try clear hcz10_7
          try clear hcz10_8
          try clear hcz10_9
          try clear hcz13_0
          try clear hcz13_1
          try clear hcz13_10
          try clear hcz13_11
          try clear hcz13_12
          try clear hcz13_13
          try clear hcz13_14
          try clear hcz13_15
          try clear hcz13_16
          try clear hcz13_17
          try clear hcz13_18
          try clear hcz13_19
          try clear hcz13_2
          try clear hcz13_3
          try clear hcz13_4
          try clear hcz13_5
          try clear hcz13_6
          try clear hcz13_7
          try clear hcz13_8
          try clear hcz13_9
          try clear hcz14_0
          try clear hcz14_1
          try clear hcz14_10
          try clear hcz14_11
          try clear hcz14_12
          try clear hcz14_13
          try clear hcz14_14
          try clear hcz14_15
          try clear hcz14_16
          try clear hcz14_17
          try clear hcz14_18
          try clear hcz14_19
          try clear hcz14_2
          try clear hcz14_3
          try clear hcz14_4
          try clear hcz14_5
          try clear hcz14_6
          try clear hcz14_7
          try clear hcz14_8
          try clear hcz14_9
          try clear hcz17_0
          try clear hcz17_1
          try clear hcz17_10
          try clear hcz17_11
          try clear hcz17_12
          try clear hcz17_13
          try clear hcz17_14
          try clear hcz17_15
          try clear hcz17_16
          try clear hcz17_17
          try clear hcz17_18
          try clear hcz17_19
          try clear hcz17_2
          try clear hcz17_3
          try clear hcz17_4
          try clear hcz17_5
          try clear hcz17_6
          try clear hcz17_7
          try clear hcz17_8
          try clear hcz17_9
          try clear hcz18_0
          try clear hcz18_1
          try clear hcz18_10
          try clear hcz18_11
          try clear hcz18_12
          try clear hcz18_13
          try clear hcz18_14
          try clear hcz18_15
          try clear hcz18_16
          try clear hcz18_17
          try clear hcz18_18
          try clear hcz18_19
          try clear hcz18_2
          try clear hcz18_3
          try clear hcz18_4
          try clear hcz18_5
          try clear hcz18_6
          try clear hcz18_7
          try clear hcz18_8
          try clear hcz18_9
          try clear hcz22_0
          try clear hcz22_1
          try clear hcz22_10
          try clear hcz22_11
          try clear hcz22_12
          try clear hcz22_13
          try clear hcz22_14
          try clear hcz22_15
          try clear hcz22_16
          try clear hcz22_17
          try clear hcz22_18
          try clear hcz22_19
          try clear hcz22_2
          try clear hcz22_3
          try clear hcz22_4
          try clear hcz22_5
          try clear hcz22_6
          try clear hcz22_7
          try clear hcz22_8
          try clear hcz22_9
          try clear hcz23_0
          try clear hcz23_1
          try clear hcz23_10
          try clear hcz23_11
          try clear hcz23_12
          try clear hcz23_13
          try clear hcz23_14
          try clear hcz23_15
          try clear hcz23_16
          try clear hcz23_17
          try clear hcz23_18
          try clear hcz23_19
          try clear hcz23_2
          try clear hcz23_3
          try clear hcz23_4
          try clear hcz23_5
          try clear hcz23_6
          try clear hcz23_7
          try clear hcz23_8
          try clear hcz23_9
          try clear hcz25_0
          try clear hcz25_1
          try clear hcz25_10
          try clear hcz25_11
          try clear hcz25_12
          try clear hcz25_13
          try clear hcz25_14
          try clear hcz25_15
          try clear hcz25_16
          try clear hcz25_17
          try clear hcz25_18
          try clear hcz25_19
          try clear hcz25_2
          try clear hcz25_3
          try clear hcz25_4
          try clear hcz25_5
          try clear hcz25_6
          try clear hcz25_7
          try clear hcz25_8
          try clear hcz25_9
          try clear hcz26_0
          try clear hcz26_1
          try clear hcz26_10
          try clear hcz26_11
          try clear hcz26_12
          try clear hcz26_13
          try clear hcz26_14
          try clear hcz26_15
          try clear hcz26_16
          try clear hcz26_17
          try clear hcz26_18
          try clear hcz26_19
          try clear hcz26_2
          try clear hcz26_3
          try clear hcz26_4
          try clear hcz26_5
          try clear hcz26_6
          try clear hcz26_7
          try clear hcz26_8
          try clear hcz26_9
          try clear hcz28_0
          try clear hcz28_1
          try clear hcz28_10
          try clear hcz28_11
          try clear hcz28_12
          try clear hcz28_13
          try clear hcz28_14
          try clear hcz28_15
          try clear hcz28_16
          try clear hcz28_17
          try clear hcz28_18
          try clear hcz28_19
          try clear hcz28_2
          try clear hcz28_3
          try clear hcz28_4
          try clear hcz28_5
          try clear hcz28_6
          try clear hcz28_7
          try clear hcz28_8
          try clear hcz28_9
          try clear hcz29_0
          try clear hcz29_1
          try clear hcz29_10
          try clear hcz29_11
          try clear hcz29_12
          try clear hcz29_13
          try clear hcz29_14
          try clear hcz29_15
          try clear hcz29_16
          try clear hcz29_17
          try clear hcz29_18
          try clear hcz29_19
          try clear hcz29_2
          try clear hcz29_3
          try clear hcz29_4
          try clear hcz29_5
          try clear hcz29_6
          try clear hcz29_7
          try clear hcz29_8
          try clear hcz29_9
          try clear hcz31_0
          try clear hcz31_1
          try clear hcz31_10
          try clear hcz31_11
          try clear hcz31_12
          try clear hcz31_13
          try clear hcz31_14
          try clear hcz31_15
          try clear hcz31_16
          try clear hcz31_17
          try clear hcz31_18
          try clear hcz31_19
          try clear hcz31_2
          try clear hcz31_3
          try clear hcz31_4
          try clear hcz31_5
          try clear hcz31_6
          try clear hcz31_7
          try clear hcz31_8
          try clear hcz31_9
          try clear hcz32_0
          try clear hcz32_1
          try clear hcz32_10
          try clear hcz32_11
          try clear hcz32_12
          try clear hcz32_13
          try clear hcz32_14
          try clear hcz32_15
          try clear hcz32_16
          try clear hcz32_17
          try clear hcz32_18
          try clear hcz32_19
          try clear hcz32_2
          try clear hcz32_3
          try clear hcz32_4
          try clear hcz32_5
          try clear hcz32_6
          try clear hcz32_7
          try clear hcz32_8
          try clear hcz32_9
          try clear hfz10_0
          try clear hfz10_1
          try clear hfz10_10
          try clear hfz10_11
          try clear hfz10_12
          try clear hfz10_13
          try clear hfz10_14
          try clear hfz10_15
          try clear hfz10_16
          try clear hfz10_17
          try clear hfz10_18
          try clear hfz10_19
          try clear hfz10_2
          try clear hfz10_3
          try clear hfz10_4
          try clear hfz10_5
          try clear hfz10_6
          try clear hfz10_7
          try clear hfz10_8
          try clear hfz10_9
          try clear hfz13_0
          try clear hfz13_1
          try clear hfz13_10
          try clear hfz13_11
          try clear hfz13_12
          try clear hfz13_13
          try clear hfz13_14
          try clear hfz13_15
          try clear hfz13_16
          try clear hfz13_17
          try clear hfz13_18
          try clear hfz13_19
          try clear hfz13_2
          try clear hfz13_3
          try clear hfz13_4
          try clear hfz13_5
          try clear hfz13_6
          try clear hfz13_7
          try clear hfz13_8
          try clear hfz13_9
          try clear hfz14_0
          try clear hfz14_1
          try clear hfz14_10
          try clear hfz14_11
          try clear hfz14_12
          try clear hfz14_13
          try clear hfz14_14
          try clear hfz14_15
          try clear hfz14_16
          try clear hfz14_17
          try clear hfz14_18
          try clear hfz14_19
          try clear hfz14_2
          try clear hfz14_3
          try clear hfz14_4
          try clear hfz14_5
          try clear hfz14_6
          try clear hfz14_7
          try clear hfz14_8
          try clear hfz14_9
          try clear hfz17_0
          try clear hfz17_1
          try clear hfz17_10
          try clear hfz17_11
          try clear hfz17_12
          try clear hfz17_13
          try clear hfz17_14
          try clear hfz17_15
          try clear hfz17_16
          try clear hfz17_17
          try clear hfz17_18
          try clear hfz17_19
          try clear hfz17_2
          try clear hfz17_3
          try clear hfz17_4
          try clear hfz17_5
          try clear hfz17_6
          try clear hfz17_7
          try clear hfz17_8
          try clear hfz17_9
          try clear hfz18_0
          try clear hfz18_1
          try clear hfz18_10
          try clear hfz18_11
          try clear hfz18_12
          try clear hfz18_13
          try clear hfz18_14
          try clear hfz18_15
          try clear hfz18_16
          try clear hfz18_17
          try clear hfz18_18
          try clear hfz18_19
          try clear hfz18_2
          try clear hfz18_3
          try clear hfz18_4
          try clear hfz18_5
          try clear hfz18_6
          try clear hfz18_7
          try clear hfz18_8
          try clear hfz18_9
          try clear hfz22_0
          try clear hfz22_1
          try clear hfz22_10
          try clear hfz22_11
          try clear hfz22_12
          try clear hfz22_13
          try clear hfz22_14
          try clear hfz22_15
          try clear hfz22_16
          try clear hfz22_17
          try clear hfz22_18
          try clear hfz22_19
          try clear hfz22_2
          try clear hfz22_3
          try clear hfz22_4
          try clear hfz22_5
          try clear hfz22_6
          try clear hfz22_7
          try clear hfz22_8
          try clear hfz22_9
          try clear hfz23_0
          try clear hfz23_1
          try clear hfz23_10
          try clear hfz23_11
          try clear hfz23_12
          try clear hfz23_13
          try clear hfz23_14
          try clear hfz23_15
          try clear hfz23_16
          try clear hfz23_17
          try clear hfz23_18
          try clear hfz23_19
          try clear hfz23_2
          try clear hfz23_3
          try clear hfz23_4
          try clear hfz23_5
          try clear hfz23_6
          try clear hfz23_7
          try clear hfz23_8
          try clear hfz23_9
          try clear hfz25_0
          try clear hfz25_1
          try clear hfz25_10
          try clear hfz25_11
          try clear hfz25_12
          try clear hfz25_13
          try clear hfz25_14
          try clear hfz25_15
          try clear hfz25_16
          try clear hfz25_17
          try clear hfz25_18
          try clear hfz25_19
          try clear hfz25_2
          try clear hfz25_3
          try clear hfz25_4
          try clear hfz25_5
          try clear hfz25_6
          try clear hfz25_7
          try clear hfz25_8
          try clear hfz25_9
          try clear hfz26_0
          try clear hfz26_1
          try clear hfz26_10
          try clear hfz26_11
          try clear hfz26_12
          try clear hfz26_13
          try clear hfz26_14
          try clear hfz26_15
          try clear hfz26_16
          try clear hfz26_17
          try clear hfz26_18
          try clear hfz26_19
          try clear hfz26_2
          try clear hfz26_3
          try clear hfz26_4
          try clear hfz26_5
          try clear hfz26_6
          try clear hfz26_7
          try clear hfz26_8
          try clear hfz26_9
          try clear hfz28_0
          try clear hfz28_1
          try clear hfz28_10
          try clear hfz28_11
          try clear hfz28_12
          try clear hfz28_13
          try clear hfz28_14
          try clear hfz28_15
          try clear hfz28_16
          try clear hfz28_17
          try clear hfz28_18
          try clear hfz28_19
          try clear hfz28_2
          try clear hfz28_3
          try clear hfz28_4
          try clear hfz28_5
          try clear hfz28_6
          try clear hfz28_7
          try clear hfz28_8
          try clear hfz28_9
          try clear hfz29_0
          try clear hfz29_1
          try clear hfz29_10
          try clear hfz29_11
          try clear hfz29_12
          try clear hfz29_13
          try clear hfz29_14
          try clear hfz29_15
          try clear hfz29_16
          try clear hfz29_17
          try clear hfz29_18
          try clear hfz29_19
          try clear hfz29_2
          try clear hfz29_3
          try clear hfz29_4
          try clear hfz29_5
          try clear hfz29_6
          try clear hfz29_7
          try clear hfz29_8
          try clear hfz29_9
          try clear hfz31_0
          try clear hfz31_1
          try clear hfz31_10
          try clear hfz31_11
          try clear hfz31_12
          try clear hfz31_13
          try clear hfz31_14
          try clear hfz31_15
          try clear hfz31_16
          try clear hfz31_17
          try clear hfz31_18
          try clear hfz31_19
          try clear hfz31_2
          try clear hfz31_3
          try clear hfz31_4
          try clear hfz31_5
          try clear hfz31_6
          try clear hfz31_7
          try clear hfz31_8
          try clear hfz31_9
          try clear hfz32_0
          try clear hfz32_1
          try clear hfz32_10
          try clear hfz32_11
          try clear hfz32_12
          try clear hfz32_13
          try clear hfz32_14
          try clear hfz32_15
          try clear hfz32_16
          try clear hfz32_17
          try clear hfz32_18
          try clear hfz32_19
          try clear hfz32_2
          try clear hfz32_3
          try clear hfz32_4
          try clear hfz32_5
          try clear hfz32_6
          try clear hfz32_7
          try clear hfz32_8
          try clear hfz32_9
          try clear p2
          obtain ⟨x5_2, rfl, HA, HK2, BK120, BK121, HB⟩ := hrel
          cases gk with
          | zero => exact absurd HA.out (by simp [quireref12_Same.l0])
          | succ k2 =>
            have H := HA.out
            clear HA
            simp only [quireref12_Same.l0] at H
            by_cases c34 : x5_2 < (l0_19.length : Int)
            · rw [if_pos c34] at H
              have c34b0 : decide (x5_2 < (l0_19.length : Int)) = true := decide_eq_true c34
              clear c34
              by_cases c35 : 0 ≤ x5_2
              · rw [if_pos c35] at H
                have c35b0 : decide (0 ≤ x5_2) = true := decide_eq_true c35
                clear c35
                by_cases c36 : x5_2 < (l1_19.length : Int)
                · rw [if_pos c36] at H
                  have c36b0 : decide (x5_2 < (l1_19.length : Int)) = true := decide_eq_true c36
                  clear c36
                  replace H := Option.bind_eq_some_iff.mp H
                  obtain ⟨t124, A370, H⟩ := H
                  replace H : (if t124 = true then (quireref12_Same.l0 k2 (wrap64 (x5_2 + 1)) a0_0 a0_1 a0_2 a0_3 a0_4 a0_5 a0_6 a0_7 a0_8 a0_9 a0_10 a0_11 a0_12 a0_13 a0_14 a0_15 a0_16 a0_17 a0_18 l0_19 a1_0 a1_1 a1_2 a1_3 a1_4 a1_5 a1_6 a1_7 a1_8 a1_9 a1_10 a1_11 a1_12 a1_13 a1_14 a1_15 a1_16 a1_17 a1_18 l1_19) else (some false)) = some r := H
                  have A37 := Aside0.mk A370
                  clear A370
                  by_cases c38 : t124 = true
                  · subst c38
                    have H1 : (quireref12_Same.l0 k2 (wrap64 (x5_2 + 1)) a0_0 a0_1 a0_2 a0_3 a0_4 a0_5 a0_6 a0_7 a0_8 a0_9 a0_10 a0_11 a0_12 a0_13 a0_14 a0_15 a0_16 a0_17 a0_18 l0_19 a1_0 a1_1 a1_2 a1_3 a1_4 a1_5 a1_6 a1_7 a1_8 a1_9 a1_10 a1_11 a1_12 a1_13 a1_14 a1_15 a1_16 a1_17 a1_18 l1_19) = some r := by rw [if_pos rfl] at H; exact H
                    clear H
                    have H := H1
                    clear H1
                    have H' := Aside0.mk H
                    clear H
                    have hnb39 := NB120_121.out
                    have hnc39 := NB121_120.out
                    obtain ⟨hcz40_0, hcz40_1, hcz40_2, hcz40_3, hcz40_4, hcz40_5, hcz40_6, hcz40_7, hcz40_8, hcz40_9, hcz40_10, hcz40_11, hcz40_12, hcz40_13, hcz40_14, hcz40_15, hcz40_16, hcz40_17, hcz40_18, hcz40_19⟩ := blk20 BK120.out
                    obtain ⟨hfz40_0, hfz40_1, hfz40_2, hfz40_3, hfz40_4, hfz40_5, hfz40_6, hfz40_7, hfz40_8, hfz40_9, hfz40_10, hfz40_11, hfz40_12, hfz40_13, hfz40_14, hfz40_15, hfz40_16, hfz40_17, hfz40_18, hfz40_19⟩ := frz20 BK120.out
                    try go_wp2_with (first | ((with_reducible refine gate_load (t := 35) rfl ?_); (try (refine gate_guard (by first | rfl | (go_simp; done) | (go_simp; assumption)) ?_; dsimp only)); refine load_event20 rfl rfl (by first | rfl | (go_simp; done) | (go_simp; rfl)) Tryz.isAgg35 Tryz.sizeOf35 ?_))
                    have n0_ := Aside0.mk (blk_drew BK120.out)
                    have n1_ := Aside0.mk (blk_drew BK121.out)
                    have n2_ := Aside0.mk (below_drew1 HB.out)
                    clear BK120
                    clear BK121
                    clear HB
                    have BK120 := n0_
                    have BK121 := n1_
                    have HB := n2_
                    clear n0_ n1_ n2_
                    have p122 : 0 ≤ (x5_2 : Int) := of_decide_eq_true (by first | (with_reducible assumption) | assumption)
                    have q122 : x5_2 < (l0_19.length : Int) := of_decide_eq_true (by first | (with_reducible assumption) | assumption)
                    obtain ⟨ad122, A122_19, c122_19, e122, hx122_0, hx122_1, hx122_2, hx122_3, hx122_4, hx122_5, hx122_6, hx122_7, hx122_8, hx122_9, hx122_10, hx122_11, hx122_12, hx122_13, hx122_14, hx122_15, hx122_16, hx122_17, hx122_18, hx122_19, hl122_19, hi122_19⟩ := at_T35 HR0_19.out x5_2 p122 q122
                    have hw122_19 := hx122_19
                    have hw122_18 := hx122_18
                    have hw122_17 := hx122_17
                    have hw122_16 := hx122_16
                    have hw122_15 := hx122_15
                    have hw122_14 := hx122_14
                    have hw122_13 := hx122_13
                    have hw122_12 := hx122_12
                    have hw122_11 := hx122_11
                    have hw122_10 := hx122_10
                    have hw122_9 := hx122_9
                    have hw122_8 := hx122_8
                    have hw122_7 := hx122_7
                    have hw122_6 := hx122_6
                    have hw122_5 := hx122_5
                    have hw122_4 := hx122_4
                    have hw122_3 := hx122_3
                    have hw122_2 := hx122_2
                    have hw122_1 := hx122_1
                    have hw122_0 := hx122_0
                    cases e122
                    replace hx122_0 := (HB.out.cell (World.block_lt_of_cell? w _ hx122_0)).trans hx122_0
                    replace hx122_1 := (HB.out.cell (World.block_lt_of_cell? w _ hx122_1)).trans hx122_1
                    replace hx122_2 := (HB.out.cell (World.block_lt_of_cell? w _ hx122_2)).trans hx122_2
                    replace hx122_3 := (HB.out.cell (World.block_lt_of_cell? w _ hx122_3)).trans hx122_3
                    replace hx122_4 := (HB.out.cell (World.block_lt_of_cell? w _ hx122_4)).trans hx122_4
                    replace hx122_5 := (HB.out.cell (World.block_lt_of_cell? w _ hx122_5)).trans hx122_5
                    replace hx122_6 := (HB.out.cell (World.block_lt_of_cell? w _ hx122_6)).trans hx122_6
                    replace hx122_7 := (HB.out.cell (World.block_lt_of_cell? w _ hx122_7)).trans hx122_7
                    replace hx122_8 := (HB.out.cell (World.block_lt_of_cell? w _ hx122_8)).trans hx122_8
                    replace hx122_9 := (HB.out.cell (World.block_lt_of_cell? w _ hx122_9)).trans hx122_9
                    replace hx122_10 := (HB.out.cell (World.block_lt_of_cell? w _ hx122_10)).trans hx122_10
                    replace hx122_11 := (HB.out.cell (World.block_lt_of_cell? w _ hx122_11)).trans hx122_11
                    replace hx122_12 := (HB.out.cell (World.block_lt_of_cell? w _ hx122_12)).trans hx122_12
                    replace hx122_13 := (HB.out.cell (World.block_lt_of_cell? w _ hx122_13)).trans hx122_13
                    replace hx122_14 := (HB.out.cell (World.block_lt_of_cell? w _ hx122_14)).trans hx122_14
                    replace hx122_15 := (HB.out.cell (World.block_lt_of_cell? w _ hx122_15)).trans hx122_15
                    replace hx122_16 := (HB.out.cell (World.block_lt_of_cell? w _ hx122_16)).trans hx122_16
                    replace hx122_17 := (HB.out.cell (World.block_lt_of_cell? w _ hx122_17)).trans hx122_17
                    replace hx122_18 := (HB.out.cell (World.block_lt_of_cell? w _ hx122_18)).trans hx122_18
                    replace hx122_19 := (HB.out.cell (World.block_lt_of_cell? w _ hx122_19)).trans hx122_19
                    have HR122_19 := Aside0.mk hi122_19
                    have HC122_19 := Aside0.mk hl122_19
                    clear hi122_19 hl122_19
                    replace p122 := eq_true p122
                    replace q122 := eq_true q122
                    have p123 : 0 ≤ (x5_2 : Int) := of_decide_eq_true (by first | (with_reducible assumption) | assumption)
                    have q123 : x5_2 < (l1_19.length : Int) := of_decide_eq_true (by first | (with_reducible assumption) | assumption)
                    obtain ⟨ad123, A123_19, c123_19, e123, hx123_0, hx123_1, hx123_2, hx123_3, hx123_4, hx123_5, hx123_6, hx123_7, hx123_8, hx123_9, hx123_10, hx123_11, hx123_12, hx123_13, hx123_14, hx123_15, hx123_16, hx123_17, hx123_18, hx123_19, hl123_19, hi123_19⟩ := at_T35 HR1_19.out x5_2 p123 q123
                    have hw123_19 := hx123_19
                    have hw123_18 := hx123_18
                    have hw123_17 := hx123_17
                    have hw123_16 := hx123_16
                    have hw123_15 := hx123_15
                    have hw123_14 := hx123_14
                    have hw123_13 := hx123_13
                    have hw123_12 := hx123_12
                    have hw123_11 := hx123_11
                    have hw123_10 := hx123_10
                    have hw123_9 := hx123_9
                    have hw123_8 := hx123_8
                    have hw123_7 := hx123_7
                    have hw123_6 := hx123_6
                    have hw123_5 := hx123_5
                    have hw123_4 := hx123_4
                    have hw123_3 := hx123_3
                    have hw123_2 := hx123_2
                    have hw123_1 := hx123_1
                    have hw123_0 := hx123_0
                    cases e123
                    replace hx123_0 := (HB.out.cell (World.block_lt_of_cell? w _ hx123_0)).trans hx123_0
                    replace hx123_1 := (HB.out.cell (World.block_lt_of_cell? w _ hx123_1)).trans hx123_1
                    replace hx123_2 := (HB.out.cell (World.block_lt_of_cell? w _ hx123_2)).trans hx123_2
                    replace hx123_3 := (HB.out.cell (World.block_lt_of_cell? w _ hx123_3)).trans hx123_3
                    replace hx123_4 := (HB.out.cell (World.block_lt_of_cell? w _ hx123_4)).trans hx123_4
                    replace hx123_5 := (HB.out.cell (World.block_lt_of_cell? w _ hx123_5)).trans hx123_5
                    replace hx123_6 := (HB.out.cell (World.block_lt_of_cell? w _ hx123_6)).trans hx123_6
                    replace hx123_7 := (HB.out.cell (World.block_lt_of_cell? w _ hx123_7)).trans hx123_7
                    replace hx123_8 := (HB.out.cell (World.block_lt_of_cell? w _ hx123_8)).trans hx123_8
                    replace hx123_9 := (HB.out.cell (World.block_lt_of_cell? w _ hx123_9)).trans hx123_9
                    replace hx123_10 := (HB.out.cell (World.block_lt_of_cell? w _ hx123_10)).trans hx123_10
                    replace hx123_11 := (HB.out.cell (World.block_lt_of_cell? w _ hx123_11)).trans hx123_11
                    replace hx123_12 := (HB.out.cell (World.block_lt_of_cell? w _ hx123_12)).trans hx123_12
                    replace hx123_13 := (HB.out.cell (World.block_lt_of_cell? w _ hx123_13)).trans hx123_13
                    replace hx123_14 := (HB.out.cell (World.block_lt_of_cell? w _ hx123_14)).trans hx123_14
                    replace hx123_15 := (HB.out.cell (World.block_lt_of_cell? w _ hx123_15)).trans hx123_15
                    replace hx123_16 := (HB.out.cell (World.block_lt_of_cell? w _ hx123_16)).trans hx123_16
                    replace hx123_17 := (HB.out.cell (World.block_lt_of_cell? w _ hx123_17)).trans hx123_17
                    replace hx123_18 := (HB.out.cell (World.block_lt_of_cell? w _ hx123_18)).trans hx123_18
                    replace hx123_19 := (HB.out.cell (World.block_lt_of_cell? w _ hx123_19)).trans hx123_19
                    have HR123_19 := Aside0.mk hi123_19
                    have HC123_19 := Aside0.mk hl123_19
                    clear hi123_19 hl123_19
                    replace p123 := eq_true p123
                    replace q123 := eq_true q123
                    refine start_ (n := 12) (S := fun w' => w'.cell? ⟨gb120, 0, none⟩ = some (.int .i64 a0_0) ∧ w'.cell? ⟨gb120, 1, none⟩ = some (.int .i64 a0_1) ∧ w'.cell? ⟨gb120, 2, none⟩ = some (.int .i64 a0_2) ∧ w'.cell? ⟨gb120, 3, none⟩ = some (.int .i64 a0_3) ∧ w'.cell? ⟨gb120, 4, none⟩ = some (.string a0_4) ∧ w'.cell? ⟨gb120, 5, none⟩ = some (.bool a0_5) ∧ w'.cell? ⟨gb120, 6, none⟩ = some (.int .i64 a0_6) ∧ w'.cell? ⟨gb120, 7, none⟩ = some (.string a0_7) ∧ w'.cell? ⟨gb120, 8, none⟩ = some (.int .i64 a0_8) ∧ w'.cell? ⟨gb120, 9, none⟩ = some (.int .i64 a0_9) ∧ w'.cell? ⟨gb120, 10, none⟩ = some (.bool a0_10) ∧ w'.cell? ⟨gb120, 11, none⟩ = some (.bool a0_11) ∧ w'.cell? ⟨gb120, 12, none⟩ = some (.string a0_12) ∧ w'.cell? ⟨gb120, 13, none⟩ = some (.int .i64 a0_13) ∧ w'.cell? ⟨gb120, 14, none⟩ = some (.int .i64 a0_14) ∧ w'.cell? ⟨gb120, 15, none⟩ = some (.bool a0_15) ∧ w'.cell? ⟨gb120, 16, none⟩ = some (.bool a0_16) ∧ w'.cell? ⟨gb120, 17, none⟩ = some (.string a0_17) ∧ w'.cell? ⟨gb120, 18, none⟩ = some (.int .i64 a0_18) ∧ w'.cell? ⟨gb120, 19, none⟩ = some (.slice (some ad122) l0_19.length c0_19) ∧ w'.cell? ⟨gb121, 0, none⟩ = some (.int .i64 a1_0) ∧ w'.cell? ⟨gb121, 1, none⟩ = some (.int .i64 a1_1) ∧ w'.cell? ⟨gb121, 2, none⟩ = some (.int .i64 a1_2) ∧ w'.cell? ⟨gb121, 3, none⟩ = some (.int .i64 a1_3) ∧ w'.cell? ⟨gb121, 4, none⟩ = some (.string a1_4) ∧ w'.cell? ⟨gb121, 5, none⟩ = some (.bool a1_5) ∧ w'.cell? ⟨gb121, 6, none⟩ = some (.int .i64 a1_6) ∧ w'.cell? ⟨gb121, 7, none⟩ = some (.string a1_7) ∧ w'.cell? ⟨gb121, 8, none⟩ = some (.int .i64 a1_8) ∧ w'.cell? ⟨gb121, 9, none⟩ = some (.int .i64 a1_9) ∧ w'.cell? ⟨gb121, 10, none⟩ = some (.bool a1_10) ∧ w'.cell? ⟨gb121, 11, none⟩ = some (.bool a1_11) ∧ w'.cell? ⟨gb121, 12, none⟩ = some (.string a1_12) ∧ w'.cell? ⟨gb121, 13, none⟩ = some (.int .i64 a1_13) ∧ w'.cell? ⟨gb121, 14, none⟩ = some (.int .i64 a1_14) ∧ w'.cell? ⟨gb121, 15, none⟩ = some (.bool a1_15) ∧ w'.cell? ⟨gb121, 16, none⟩ = some (.bool a1_16) ∧ w'.cell? ⟨gb121, 17, none⟩ = some (.string a1_17) ∧ w'.cell? ⟨gb121, 18, none⟩ = some (.int .i64 a1_18) ∧ w'.cell? ⟨gb121, 19, none⟩ = some (.slice (some ad123) l1_19.length c1_19) ∧ w'.cell? (ad122.add ((x5_2).toNat * 20)) = some (.int .i64 ((rd_T35 l0_19 x5_2).f0)) ∧ w'.cell? ⟨(ad122.add ((x5_2).toNat * 20)).block, (ad122.add ((x5_2).toNat * 20)).off + 1, none⟩ = some (.int .i64 ((rd_T35 l0_19 x5_2).f1.f0)) ∧ w'.cell? ⟨(ad122.add ((x5_2).toNat * 20)).block, (ad122.add ((x5_2).toNat * 20)).off + 2, none⟩ = some (.int .i64 ((rd_T35 l0_19 x5_2).f1.f1.f0)) ∧ w'.cell? ⟨(ad122.add ((x5_2).toNat * 20)).block, (ad122.add ((x5_2).toNat * 20)).off + 3, none⟩ = some (.int .i64 ((rd_T35 l0_19 x5_2).f1.f1.f1)) ∧ w'.cell? ⟨(ad122.add ((x5_2).toNat * 20)).block, (ad122.add ((x5_2).toNat * 20)).off + 4, none⟩ = some (.string ((rd_T35 l0_19 x5_2).f1.f2)) ∧ w'.cell? ⟨(ad122.add ((x5_2).toNat * 20)).block, (ad122.add ((x5_2).toNat * 20)).off + 5, none⟩ = some (.bool ((rd_T35 l0_19 x5_2).f1.f3)) ∧ w'.cell? ⟨(ad122.add ((x5_2).toNat * 20)).block, (ad122.add ((x5_2).toNat * 20)).off + 6, none⟩ = some (.int .i64 ((rd_T35 l0_19 x5_2).f1.f4)) ∧ w'.cell? ⟨(ad122.add ((x5_2).toNat * 20)).block, (ad122.add ((x5_2).toNat * 20)).off + 7, none⟩ = some (.string ((rd_T35 l0_19 x5_2).f2.f0)) ∧ w'.cell? ⟨(ad122.add ((x5_2).toNat * 20)).block, (ad122.add ((x5_2).toNat * 20)).off + 8, none⟩ = some (.int .i64 ((rd_T35 l0_19 x5_2).f2.f1)) ∧ w'.cell? ⟨(ad122.add ((x5_2).toNat * 20)).block, (ad122.add ((x5_2).toNat * 20)).off + 9, none⟩ = some (.int .i64 ((rd_T35 l0_19 x5_2).f2.f2)) ∧ w'.cell? ⟨(ad122.add ((x5_2).toNat * 20)).block, (ad122.add ((x5_2).toNat * 20)).off + 10, none⟩ = some (.bool ((rd_T35 l0_19 x5_2).f2.f3)) ∧ w'.cell? ⟨(ad122.add ((x5_2).toNat * 20)).block, (ad122.add ((x5_2).toNat * 20)).off + 11, none⟩ = some (.bool ((rd_T35 l0_19 x5_2).f2.f4)) ∧ w'.cell? ⟨(ad122.add ((x5_2).toNat * 20)).block, (ad122.add ((x5_2).toNat * 20)).off + 12, none⟩ = some (.string ((rd_T35 l0_19 x5_2).f3.f0)) ∧ w'.cell? ⟨(ad122.add ((x5_2).toNat * 20)).block, (ad122.add ((x5_2).toNat * 20)).off + 13, none⟩ = some (.int .i64 ((rd_T35 l0_19 x5_2).f3.f1)) ∧ w'.cell? ⟨(ad122.add ((x5_2).toNat * 20)).block, (ad122.add ((x5_2).toNat * 20)).off + 14, none⟩ = some (.int .i64 ((rd_T35 l0_19 x5_2).f3.f2)) ∧ w'.cell? ⟨(ad122.add ((x5_2).toNat * 20)).block, (ad122.add ((x5_2).toNat * 20)).off + 15, none⟩ = some (.bool ((rd_T35 l0_19 x5_2).f3.f3)) ∧ w'.cell? ⟨(ad122.add ((x5_2).toNat * 20)).block, (ad122.add ((x5_2).toNat * 20)).off + 16, none⟩ = some (.bool ((rd_T35 l0_19 x5_2).f3.f4)) ∧ w'.cell? ⟨(ad122.add ((x5_2).toNat * 20)).block, (ad122.add ((x5_2).toNat * 20)).off + 17, none⟩ = some (.string ((rd_T35 l0_19 x5_2).f4)) ∧ w'.cell? ⟨(ad122.add ((x5_2).toNat * 20)).block, (ad122.add ((x5_2).toNat * 20)).off + 18, none⟩ = some (.int .i64 ((rd_T35 l0_19 x5_2).f5)) ∧ w'.cell? ⟨(ad122.add ((x5_2).toNat * 20)).block, (ad122.add ((x5_2).toNat * 20)).off + 19, none⟩ = some (.slice A122_19 ((rd_T35 l0_19 x5_2).f6).length c122_19) ∧ w'.cell? (ad123.add ((x5_2).toNat * 20)) = some (.int .i64 ((rd_T35 l1_19 x5_2).f0)) ∧ w'.cell? ⟨(ad123.add ((x5_2).toNat * 20)).block, (ad123.add ((x5_2).toNat * 20)).off + 1, none⟩ = some (.int .i64 ((rd_T35 l1_19 x5_2).f1.f0)) ∧ w'.cell? ⟨(ad123.add ((x5_2).toNat * 20)).block, (ad123.add ((x5_2).toNat * 20)).off + 2, none⟩ = some (.int .i64 ((rd_T35 l1_19 x5_2).f1.f1.f0)) ∧ w'.cell? ⟨(ad123.add ((x5_2).toNat * 20)).block, (ad123.add ((x5_2).toNat * 20)).off + 3, none⟩ = some (.int .i64 ((rd_T35 l1_19 x5_2).f1.f1.f1)) ∧ w'.cell? ⟨(ad123.add ((x5_2).toNat * 20)).block, (ad123.add ((x5_2).toNat * 20)).off + 4, none⟩ = some (.string ((rd_T35 l1_19 x5_2).f1.f2)) ∧ w'.cell? ⟨(ad123.add ((x5_2).toNat * 20)).block, (ad123.add ((x5_2).toNat * 20)).off + 5, none⟩ = some (.bool ((rd_T35 l1_19 x5_2).f1.f3)) ∧ w'.cell? ⟨(ad123.add ((x5_2).toNat * 20)).block, (ad123.add ((x5_2).toNat * 20)).off + 6, none⟩ = some (.int .i64 ((rd_T35 l1_19 x5_2).f1.f4)) ∧ w'.cell? ⟨(ad123.add ((x5_2).toNat * 20)).block, (ad123.add ((x5_2).toNat * 20)).off + 7, none⟩ = some (.string ((rd_T35 l1_19 x5_2).f2.f0)) ∧ w'.cell? ⟨(ad123.add ((x5_2).toNat * 20)).block, (ad123.add ((x5_2).toNat * 20)).off + 8, none⟩ = some (.int .i64 ((rd_T35 l1_19 x5_2).f2.f1)) ∧ w'.cell? ⟨(ad123.add ((x5_2).toNat * 20)).block, (ad123.add ((x5_2).toNat * 20)).off + 9, none⟩ = some (.int .i64 ((rd_T35 l1_19 x5_2).f2.f2)) ∧ w'.cell? ⟨(ad123.add ((x5_2).toNat * 20)).block, (ad123.add ((x5_2).toNat * 20)).off + 10, none⟩ = some (.bool ((rd_T35 l1_19 x5_2).f2.f3)) ∧ w'.cell? ⟨(ad123.add ((x5_2).toNat * 20)).block, (ad123.add ((x5_2).toNat * 20)).off + 11, none⟩ = some (.bool ((rd_T35 l1_19 x5_2).f2.f4)) ∧ w'.cell? ⟨(ad123.add ((x5_2).toNat * 20)).block, (ad123.add ((x5_2).toNat * 20)).off + 12, none⟩ = some (.string ((rd_T35 l1_19 x5_2).f3.f0)) ∧ w'.cell? ⟨(ad123.add ((x5_2).toNat * 20)).block, (ad123.add ((x5_2).toNat * 20)).off + 13, none⟩ = some (.int .i64 ((rd_T35 l1_19 x5_2).f3.f1)) ∧ w'.cell? ⟨(ad123.add ((x5_2).toNat * 20)).block, (ad123.add ((x5_2).toNat * 20)).off + 14, none⟩ = some (.int .i64 ((rd_T35 l1_19 x5_2).f3.f2)) ∧ w'.cell? ⟨(ad123.add ((x5_2).toNat * 20)).block, (ad123.add ((x5_2).toNat * 20)).off + 15, none⟩ = some (.bool ((rd_T35 l1_19 x5_2).f3.f3)) ∧ w'.cell? ⟨(ad123.add ((x5_2).toNat * 20)).block, (ad123.add ((x5_2).toNat * 20)).off + 16, none⟩ = some (.bool ((rd_T35 l1_19 x5_2).f3.f4)) ∧ w'.cell? ⟨(ad123.add ((x5_2).toNat * 20)).block, (ad123.add ((x5_2).toNat * 20)).off + 17, none⟩ = some (.string ((rd_T35 l1_19 x5_2).f4)) ∧ w'.cell? ⟨(ad123.add ((x5_2).toNat * 20)).block, (ad123.add ((x5_2).toNat * 20)).off + 18, none⟩ = some (.int .i64 ((rd_T35 l1_19 x5_2).f5)) ∧ w'.cell? ⟨(ad123.add ((x5_2).toNat * 20)).block, (ad123.add ((x5_2).toNat * 20)).off + 19, none⟩ = some (.slice A123_19 ((rd_T35 l1_19 x5_2).f6).length c123_19)) (ds := []) #[false, false, false, false, false, false, false, false, false, false, false, false] (by kernel_rfl) rfl rfl ⟨(blk_cell BK120.out 0).trans rfl, (blk_cell BK120.out 1).trans rfl, (blk_cell BK120.out 2).trans rfl, (blk_cell BK120.out 3).trans rfl, (blk_cell BK120.out 4).trans rfl, (blk_cell BK120.out 5).trans rfl, (blk_cell BK120.out 6).trans rfl, (blk_cell BK120.out 7).trans rfl, (blk_cell BK120.out 8).trans rfl, (blk_cell BK120.out 9).trans rfl, (blk_cell BK120.out 10).trans rfl, (blk_cell BK120.out 11).trans rfl, (blk_cell BK120.out 12).trans rfl, (blk_cell BK120.out 13).trans rfl, (blk_cell BK120.out 14).trans rfl, (blk_cell BK120.out 15).trans rfl, (blk_cell BK120.out 16).trans rfl, (blk_cell BK120.out 17).trans rfl, (blk_cell BK120.out 18).trans rfl, (blk_cell BK120.out 19).trans rfl, (blk_cell BK121.out 0).trans rfl, (blk_cell BK121.out 1).trans rfl, (blk_cell BK121.out 2).trans rfl, (blk_cell BK121.out 3).trans rfl, (blk_cell BK121.out 4).trans rfl, (blk_cell BK121.out 5).trans rfl, (blk_cell BK121.out 6).trans rfl, (blk_cell BK121.out 7).trans rfl, (blk_cell BK121.out 8).trans rfl, (blk_cell BK121.out 9).trans rfl, (blk_cell BK121.out 10).trans rfl, (blk_cell BK121.out 11).trans rfl, (blk_cell BK121.out 12).trans rfl, (blk_cell BK121.out 13).trans rfl, (blk_cell BK121.out 14).trans rfl, (blk_cell BK121.out 15).trans rfl, (blk_cell BK121.out 16).trans rfl, (blk_cell BK121.out 17).trans rfl, (blk_cell BK121.out 18).trans rfl, (blk_cell BK121.out 19).trans rfl, ((HB.out.cell (World.block_lt_of_cell? w _ hw122_0)).trans hw122_0), ((HB.out.cell (World.block_lt_of_cell? w _ hw122_1)).trans hw122_1), ((HB.out.cell (World.block_lt_of_cell? w _ hw122_2)).trans hw122_2), ((HB.out.cell (World.block_lt_of_cell? w _ hw122_3)).trans hw122_3), ((HB.out.cell (World.block_lt_of_cell? w _ hw122_4)).trans hw122_4), ((HB.out.cell (World.block_lt_of_cell? w _ hw122_5)).trans hw122_5), ((HB.out.cell (World.block_lt_of_cell? w _ hw122_6)).trans hw122_6), ((HB.out.cell (World.block_lt_of_cell? w _ hw122_7)).trans hw122_7), ((HB.out.cell (World.block_lt_of_cell? w _ hw122_8)).trans hw122_8), ((HB.out.cell (World.block_lt_of_cell? w _ hw122_9)).trans hw122_9), ((HB.out.cell (World.block_lt_of_cell? w _ hw122_10)).trans hw122_10), ((HB.out.cell (World.block_lt_of_cell? w _ hw122_11)).trans hw122_11), ((HB.out.cell (World.block_lt_of_cell? w _ hw122_12)).trans hw122_12), ((HB.out.cell (World.block_lt_of_cell? w _ hw122_13)).trans hw122_13), ((HB.out.cell (World.block_lt_of_cell? w _ hw122_14)).trans hw122_14), ((HB.out.cell (World.block_lt_of_cell? w _ hw122_15)).trans hw122_15), ((HB.out.cell (World.block_lt_of_cell? w _ hw122_16)).trans hw122_16), ((HB.out.cell (World.block_lt_of_cell? w _ hw122_17)).trans hw122_17), ((HB.out.cell (World.block_lt_of_cell? w _ hw122_18)).trans hw122_18), ((HB.out.cell (World.block_lt_of_cell? w _ hw122_19)).trans hw122_19), ((HB.out.cell (World.block_lt_of_cell? w _ hw123_0)).trans hw123_0), ((HB.out.cell (World.block_lt_of_cell? w _ hw123_1)).trans hw123_1), ((HB.out.cell (World.block_lt_of_cell? w _ hw123_2)).trans hw123_2), ((HB.out.cell (World.block_lt_of_cell? w _ hw123_3)).trans hw123_3), ((HB.out.cell (World.block_lt_of_cell? w _ hw123_4)).trans hw123_4), ((HB.out.cell (World.block_lt_of_cell? w _ hw123_5)).trans hw123_5), ((HB.out.cell (World.block_lt_of_cell? w _ hw123_6)).trans hw123_6), ((HB.out.cell (World.block_lt_of_cell? w _ hw123_7)).trans hw123_7), ((HB.out.cell (World.block_lt_of_cell? w _ hw123_8)).trans hw123_8), ((HB.out.cell (World.block_lt_of_cell? w _ hw123_9)).trans hw123_9), ((HB.out.cell (World.block_lt_of_cell? w _ hw123_10)).trans hw123_10), ((HB.out.cell (World.block_lt_of_cell? w _ hw123_11)).trans hw123_11), ((HB.out.cell (World.block_lt_of_cell? w _ hw123_12)).trans hw123_12), ((HB.out.cell (World.block_lt_of_cell? w _ hw123_13)).trans hw123_13), ((HB.out.cell (World.block_lt_of_cell? w _ hw123_14)).trans hw123_14), ((HB.out.cell (World.block_lt_of_cell? w _ hw123_15)).trans hw123_15), ((HB.out.cell (World.block_lt_of_cell? w _ hw123_16)).trans hw123_16), ((HB.out.cell (World.block_lt_of_cell? w _ hw123_17)).trans hw123_17), ((HB.out.cell (World.block_lt_of_cell? w _ hw123_18)).trans hw123_18), ((HB.out.cell (World.block_lt_of_cell? w _ hw123_19)).trans hw123_19)⟩ (fun hHeld => ?_); refine with_tabW quireref12_Same.tab6 quireref12_Same.bits6 (fun HT_ HW_ => ?_)
                    generalize wr.drew = w41 at BK120 BK121 HB HR122_19 HR123_19 hx122_0 hx122_1 hx122_10 hx122_11 hx122_12 hx122_13 hx122_14 hx122_15 hx122_16 hx122_17 hx122_18 hx122_19 hx122_2 hx122_3 hx122_4 hx122_5 hx122_6 hx122_7 hx122_8 hx122_9 hx123_0 hx123_1 hx123_10 hx123_11 hx123_12 hx123_13 hx123_14 hx123_15 hx123_16 hx123_17 hx123_18 hx123_19 hx123_2 hx123_3 hx123_4 hx123_5 hx123_6 hx123_7 hx123_8 hx123_9 hHeld ⊢
                    refine pure_ (i := 0) (N := some 62) (v := ?_) (a' := ?_) #[true, false, false, false, false, false, false, false, false, false, false, false] rfl rfl (any_of HT_.out (by kernel_rfl)) (fun _ _ _ h => h) (Or.inl ⟨by rfl, ?_⟩) ?_ ?_
                    rotate_left
                    · intro w'
                      go_simp
                      with_reducible rfl
                    rotate_left
                    · simp only [Act.put, List.setIfInBounds_toArray, List.set_cons_zero, List.set_cons_succ, i64_w, i32_w]
                      rfl
                    refine pure_ (i := 2) (N := some 64) (v := ?_) (a' := ?_) #[true, false, true, false, false, false, false, false, false, false, false, false] rfl rfl (any_of HT_.out (by kernel_rfl)) (fun _ _ _ h => h) (Or.inl ⟨by rfl, ?_⟩) ?_ ?_
                    rotate_left
                    · intro w'
                      go_simp
                      with_reducible rfl
                    rotate_left
                    · simp only [Act.put, List.setIfInBounds_toArray, List.set_cons_zero, List.set_cons_succ, i64_w, i32_w]
                      rfl
                    refine pure_ (i := 5) (N := some 67) (v := ?_) (a' := ?_) #[true, false, true, false, false, true, false, false, false, false, false, false] rfl rfl (any_of HT_.out (by kernel_rfl)) (fun _ _ _ h => h) (Or.inl ⟨by rfl, ?_⟩) ?_ ?_
                    rotate_left
                    · intro w'
                      go_simp
                      with_reducible rfl
                    rotate_left
                    · simp only [Act.put, List.setIfInBounds_toArray, List.set_cons_zero, List.set_cons_succ, i64_w, i32_w]
                      rfl
                    refine pure_ (i := 7) (N := some 69) (v := ?_) (a' := ?_) #[true, false, true, false, false, true, false, true, false, false, false, false] rfl rfl (any_of HT_.out (by kernel_rfl)) (fun _ _ _ h => h) (Or.inl ⟨by rfl, ?_⟩) ?_ ?_
                    rotate_left
                    · intro w'
                      go_simp
                      with_reducible rfl
                    rotate_left
                    · simp only [Act.put, List.setIfInBounds_toArray, List.set_cons_zero, List.set_cons_succ, i64_w, i32_w]
                      rfl
                    refine take_ (i := 1) (N := some 63) (v := ?_) (a' := ?_) #[true, true, true, false, false, true, false, true, false, false, false, false] rfl rfl (take_ofW HT_.out HW_.out (by kernel_rfl)) (fun _ _ _ h => h) (Or.inl ⟨by rfl, ?_⟩) hHeld ?_ ?_
                    rotate_left
                    · rintro w' ⟨s0, s1, s2, s3, s4, s5, s6, s7, s8, s9, s10, s11, s12, s13, s14, s15, s16, s17, s18, s19, s20, s21, s22, s23, s24, s25, s26, s27, s28, s29, s30, s31, s32, s33, s34, s35, s36, s37, s38, s39, s40, s41, s42, s43, s44, s45, s46, s47, s48, s49, s50, s51, s52, s53, s54, s55, s56, s57, s58, s59, s60, s61, s62, s63, s64, s65, s66, s67, s68, s69, s70, s71, s72, s73, s74, s75, s76, s77, s78, s79⟩
                      first | (refine Eq.trans (load_run20 (t := 35) (by exact rfl) (by first | rfl | (go_simp; done) | (go_simp; rfl)) Tryz.isAgg35 Tryz.sizeOf35) ?_; with_reducible rfl) | (go_simp; with_reducible rfl)
                    rotate_left
                    · simp only [Act.put, List.setIfInBounds_toArray, List.set_cons_zero, List.set_cons_succ, i64_w, i32_w]
                      rfl
                    refine pure_ (i := 3) (N := some 65) (v := ?_) (a' := ?_) #[true, true, true, true, false, true, false, true, false, false, false, false] rfl rfl (any_of HT_.out (by kernel_rfl)) (fun _ _ _ h => h) (Or.inl ⟨by rfl, ?_⟩) ?_ ?_
                    rotate_left
                    · intro w'
                      go_simp
                      with_reducible rfl
                    rotate_left
                    · simp only [Act.put, List.setIfInBounds_toArray, List.set_cons_zero, List.set_cons_succ, i64_w, i32_w]
                      rfl
                    refine take_ (i := 4) (N := some 66) (v := ?_) (a' := ?_) #[true, true, true, true, true, true, false, true, false, false, false, false] rfl rfl (take_ofW HT_.out HW_.out (by kernel_rfl)) (fun _ _ _ h => h) (Or.inl ⟨by rfl, ?_⟩) hHeld ?_ ?_
                    rotate_left
                    · rintro w' ⟨s0, s1, s2, s3, s4, s5, s6, s7, s8, s9, s10, s11, s12, s13, s14, s15, s16, s17, s18, s19, s20, s21, s22, s23, s24, s25, s26, s27, s28, s29, s30, s31, s32, s33, s34, s35, s36, s37, s38, s39, s40, s41, s42, s43, s44, s45, s46, s47, s48, s49, s50, s51, s52, s53, s54, s55, s56, s57, s58, s59, s60, s61, s62, s63, s64, s65, s66, s67, s68, s69, s70, s71, s72, s73, s74, s75, s76, s77, s78, s79⟩
                      first | (refine Eq.trans (load_run20 (t := 35) (by exact rfl) (by first | rfl | (go_simp; done) | (go_simp; rfl)) Tryz.isAgg35 Tryz.sizeOf35) ?_; with_reducible rfl) | (go_simp; with_reducible rfl)
                    rotate_left
                    · simp only [Act.put, List.setIfInBounds_toArray, List.set_cons_zero, List.set_cons_succ, i64_w, i32_w]
                      rfl
                    refine take_ (i := 6) (N := some 68) (v := ?_) (a' := ?_) #[true, true, true, true, true, true, true, true, false, false, false, false] rfl rfl (take_ofW HT_.out HW_.out (by kernel_rfl)) (fun _ _ _ h => h) (Or.inl ⟨by rfl, ?_⟩) hHeld ?_ ?_
                    rotate_left
                    · rintro w' ⟨s0, s1, s2, s3, s4, s5, s6, s7, s8, s9, s10, s11, s12, s13, s14, s15, s16, s17, s18, s19, s20, s21, s22, s23, s24, s25, s26, s27, s28, s29, s30, s31, s32, s33, s34, s35, s36, s37, s38, s39, s40, s41, s42, s43, s44, s45, s46, s47, s48, s49, s50, s51, s52, s53, s54, s55, s56, s57, s58, s59, s60, s61, s62, s63, s64, s65, s66, s67, s68, s69, s70, s71, s72, s73, s74, s75, s76, s77, s78, s79⟩
                      first | (refine Eq.trans (load_run20 (t := 35) (by exact rfl) (by first | rfl | (go_simp; done) | (go_simp; rfl)) Tryz.isAgg35 Tryz.sizeOf35) ?_; with_reducible rfl) | (go_simp; with_reducible rfl)
                    rotate_left
                    · simp only [Act.put, List.setIfInBounds_toArray, List.set_cons_zero, List.set_cons_succ, i64_w, i32_w]
                      rfl
                    refine pure_ (i := 8) (N := some 70) (v := ?_) (a' := ?_) #[true, true, true, true, true, true, true, true, true, false, false, false] rfl rfl (any_of HT_.out (by kernel_rfl)) (fun _ _ _ h => h) (Or.inl ⟨by rfl, ?_⟩) ?_ ?_
                    rotate_left
                    · intro w'
                      go_simp
                      with_reducible rfl
                    rotate_left
                    · simp only [Act.put, List.setIfInBounds_toArray, List.set_cons_zero, List.set_cons_succ, i64_w, i32_w]
                      rfl
                    refine take_ (i := 9) (N := some 71) (v := ?_) (a' := ?_) #[true, true, true, true, true, true, true, true, true, true, false, false] rfl rfl (take_ofW HT_.out HW_.out (by kernel_rfl)) (fun _ _ _ h => h) (Or.inl ⟨by rfl, ?_⟩) hHeld ?_ ?_
                    rotate_left
                    · rintro w' ⟨s0, s1, s2, s3, s4, s5, s6, s7, s8, s9, s10, s11, s12, s13, s14, s15, s16, s17, s18, s19, s20, s21, s22, s23, s24, s25, s26, s27, s28, s29, s30, s31, s32, s33, s34, s35, s36, s37, s38, s39, s40, s41, s42, s43, s44, s45, s46, s47, s48, s49, s50, s51, s52, s53, s54, s55, s56, s57, s58, s59, s60, s61, s62, s63, s64, s65, s66, s67, s68, s69, s70, s71, s72, s73, s74, s75, s76, s77, s78, s79⟩
                      first | (refine Eq.trans (load_run20 (t := 35) (by exact rfl) (by first | rfl | (go_simp; done) | (go_simp; rfl)) Tryz.isAgg35 Tryz.sizeOf35) ?_; with_reducible rfl) | (go_simp; with_reducible rfl)
                    rotate_left
                    · simp only [Act.put, List.setIfInBounds_toArray, List.set_cons_zero, List.set_cons_succ, i64_w, i32_w]
                      rfl
                    refine one_ (i := 10) (N := some 72) #[true, true, true, true, true, true, true, true, true, true, true, false] rfl rfl (one_of HT_.out (by kernel_rfl)) (by decide) (fun K hK => ?_)
                    refine goes_ Tryz.func51 (by kernel_rfl) rfl #[.agg #[.int .i64 ((rd_T35 l0_19 x5_2).f0), .int .i64 ((rd_T35 l0_19 x5_2).f1.f0), .int .i64 ((rd_T35 l0_19 x5_2).f1.f1.f0), .int .i64 ((rd_T35 l0_19 x5_2).f1.f1.f1), .string ((rd_T35 l0_19 x5_2).f1.f2), .bool ((rd_T35 l0_19 x5_2).f1.f3), .int .i64 ((rd_T35 l0_19 x5_2).f1.f4), .string ((rd_T35 l0_19 x5_2).f2.f0), .int .i64 ((rd_T35 l0_19 x5_2).f2.f1), .int .i64 ((rd_T35 l0_19 x5_2).f2.f2), .bool ((rd_T35 l0_19 x5_2).f2.f3), .bool ((rd_T35 l0_19 x5_2).f2.f4), .string ((rd_T35 l0_19 x5_2).f3.f0), .int .i64 ((rd_T35 l0_19 x5_2).f3.f1), .int .i64 ((rd_T35 l0_19 x5_2).f3.f2), .bool ((rd_T35 l0_19 x5_2).f3.f3), .bool ((rd_T35 l0_19 x5_2).f3.f4), .string ((rd_T35 l0_19 x5_2).f4), .int .i64 ((rd_T35 l0_19 x5_2).f5), .slice A122_19 ((rd_T35 l0_19 x5_2).f6).length c122_19], .agg #[.int .i64 ((rd_T35 l1_19 x5_2).f0), .int .i64 ((rd_T35 l1_19 x5_2).f1.f0), .int .i64 ((rd_T35 l1_19 x5_2).f1.f1.f0), .int .i64 ((rd_T35 l1_19 x5_2).f1.f1.f1), .string ((rd_T35 l1_19 x5_2).f1.f2), .bool ((rd_T35 l1_19 x5_2).f1.f3), .int .i64 ((rd_T35 l1_19 x5_2).f1.f4), .string ((rd_T35 l1_19 x5_2).f2.f0), .int .i64 ((rd_T35 l1_19 x5_2).f2.f1), .int .i64 ((rd_T35 l1_19 x5_2).f2.f2), .bool ((rd_T35 l1_19 x5_2).f2.f3), .bool ((rd_T35 l1_19 x5_2).f2.f4), .string ((rd_T35 l1_19 x5_2).f3.f0), .int .i64 ((rd_T35 l1_19 x5_2).f3.f1), .int .i64 ((rd_T35 l1_19 x5_2).f3.f2), .bool ((rd_T35 l1_19 x5_2).f3.f3), .bool ((rd_T35 l1_19 x5_2).f3.f4), .string ((rd_T35 l1_19 x5_2).f4), .int .i64 ((rd_T35 l1_19 x5_2).f5), .slice A123_19 ((rd_T35 l1_19 x5_2).f6).length c123_19]] (by rfl) rfl rfl (by (try simp only [List.map_toArray, List.map_cons, List.map_nil]); first | done | rfl | (simp only [List.length_drop, List.length_take]; rfl)) ?_
                    with_reducible refine (ih k2 (by have := HJ2.out; have := HK2.out; omega) ((rd_T35 l0_19 x5_2).f0) ((rd_T35 l0_19 x5_2).f1.f0) ((rd_T35 l0_19 x5_2).f1.f1.f0) ((rd_T35 l0_19 x5_2).f1.f1.f1) ((rd_T35 l0_19 x5_2).f1.f2) ((rd_T35 l0_19 x5_2).f1.f3) ((rd_T35 l0_19 x5_2).f1.f4) ((rd_T35 l0_19 x5_2).f2.f0) ((rd_T35 l0_19 x5_2).f2.f1) ((rd_T35 l0_19 x5_2).f2.f2) ((rd_T35 l0_19 x5_2).f2.f3) ((rd_T35 l0_19 x5_2).f2.f4) ((rd_T35 l0_19 x5_2).f3.f0) ((rd_T35 l0_19 x5_2).f3.f1) ((rd_T35 l0_19 x5_2).f3.f2) ((rd_T35 l0_19 x5_2).f3.f3) ((rd_T35 l0_19 x5_2).f3.f4) ((rd_T35 l0_19 x5_2).f4) ((rd_T35 l0_19 x5_2).f5) _ _ ((rd_T35 l0_19 x5_2).f6) ((rd_T35 l1_19 x5_2).f0) ((rd_T35 l1_19 x5_2).f1.f0) ((rd_T35 l1_19 x5_2).f1.f1.f0) ((rd_T35 l1_19 x5_2).f1.f1.f1) ((rd_T35 l1_19 x5_2).f1.f2) ((rd_T35 l1_19 x5_2).f1.f3) ((rd_T35 l1_19 x5_2).f1.f4) ((rd_T35 l1_19 x5_2).f2.f0) ((rd_T35 l1_19 x5_2).f2.f1) ((rd_T35 l1_19 x5_2).f2.f2) ((rd_T35 l1_19 x5_2).f2.f3) ((rd_T35 l1_19 x5_2).f2.f4) ((rd_T35 l1_19 x5_2).f3.f0) ((rd_T35 l1_19 x5_2).f3.f1) ((rd_T35 l1_19 x5_2).f3.f2) ((rd_T35 l1_19 x5_2).f3.f3) ((rd_T35 l1_19 x5_2).f3.f4) ((rd_T35 l1_19 x5_2).f4) ((rd_T35 l1_19 x5_2).f5) _ _ ((rd_T35 l1_19 x5_2).f6) true _ ?side1 ?side2 ?side3 ?side4 A37.out).mono ?_
                    (case side1 => repeat (first | exact (Kd.C_below HR122_19.out HB.out) | (with_reducible refine Kd.C_alloc ?_ _) | (with_reducible refine Kd.C_drewN ?_ _) | (with_reducible refine Kd.C_drew ?_)))
                    (case side2 => exact HC122_19.out)
                    (case side3 => repeat (first | exact (Kd.C_below HR123_19.out HB.out) | (with_reducible refine Kd.C_alloc ?_ _) | (with_reducible refine Kd.C_drewN ?_ _) | (with_reducible refine Kd.C_drew ?_)))
                    (case side4 => exact HC123_19.out)
                    rintro e w42 ⟨rfl, hb⟩
                    refine ⟨_, rfl, ?_⟩
                    have n0_ := Aside0.mk (blk_below (g := gb120) (o := .cells #[.int .i64 a0_0, .int .i64 a0_1, .int .i64 a0_2, .int .i64 a0_3, .string a0_4, .bool a0_5, .int .i64 a0_6, .string a0_7, .int .i64 a0_8, .int .i64 a0_9, .bool a0_10, .bool a0_11, .string a0_12, .int .i64 a0_13, .int .i64 a0_14, .bool a0_15, .bool a0_16, .string a0_17, .int .i64 a0_18, .slice (some ad122) l0_19.length c0_19] 35 (0, 0)) (by (with_reducible repeat (first | refine blk_drewN ?_ _ | refine blk_drew ?_ | refine blk_alloc ?_ _)); exact BK120.out) hb)
                    have n1_ := Aside0.mk (blk_below (g := gb121) (o := .cells #[.int .i64 a1_0, .int .i64 a1_1, .int .i64 a1_2, .int .i64 a1_3, .string a1_4, .bool a1_5, .int .i64 a1_6, .string a1_7, .int .i64 a1_8, .int .i64 a1_9, .bool a1_10, .bool a1_11, .string a1_12, .int .i64 a1_13, .int .i64 a1_14, .bool a1_15, .bool a1_16, .string a1_17, .int .i64 a1_18, .slice (some ad123) l1_19.length c1_19] 35 (0, 0)) (by (with_reducible repeat (first | refine blk_drewN ?_ _ | refine blk_drew ?_ | refine blk_alloc ?_ _)); exact BK121.out) hb)
                    have n2_ := Aside0.mk (below_step (by repeat (first | (with_reducible first | exact HB.out | apply below_alloc | apply pw_below_drewN | apply below_drew1 | refine below_set ?_ GE120.out | refine below_set ?_ GE121.out) | exact HB.out)) hb)
                    clear BK120
                    clear BK121
                    clear HB
                    have BK120 := n0_
                    have BK121 := n1_
                    have HB := n2_
                    clear n0_ n1_ n2_
                    (try clear hb)
                    (try clear hb2)
                    (try clear hk)
                    (try clear hi)
                    refine hK.out _ _ ⟨(blk_cell BK120.out 0).trans rfl, (blk_cell BK120.out 1).trans rfl, (blk_cell BK120.out 2).trans rfl, (blk_cell BK120.out 3).trans rfl, (blk_cell BK120.out 4).trans rfl, (blk_cell BK120.out 5).trans rfl, (blk_cell BK120.out 6).trans rfl, (blk_cell BK120.out 7).trans rfl, (blk_cell BK120.out 8).trans rfl, (blk_cell BK120.out 9).trans rfl, (blk_cell BK120.out 10).trans rfl, (blk_cell BK120.out 11).trans rfl, (blk_cell BK120.out 12).trans rfl, (blk_cell BK120.out 13).trans rfl, (blk_cell BK120.out 14).trans rfl, (blk_cell BK120.out 15).trans rfl, (blk_cell BK120.out 16).trans rfl, (blk_cell BK120.out 17).trans rfl, (blk_cell BK120.out 18).trans rfl, (blk_cell BK120.out 19).trans rfl, (blk_cell BK121.out 0).trans rfl, (blk_cell BK121.out 1).trans rfl, (blk_cell BK121.out 2).trans rfl, (blk_cell BK121.out 3).trans rfl, (blk_cell BK121.out 4).trans rfl, (blk_cell BK121.out 5).trans rfl, (blk_cell BK121.out 6).trans rfl, (blk_cell BK121.out 7).trans rfl, (blk_cell BK121.out 8).trans rfl, (blk_cell BK121.out 9).trans rfl, (blk_cell BK121.out 10).trans rfl, (blk_cell BK121.out 11).trans rfl, (blk_cell BK121.out 12).trans rfl, (blk_cell BK121.out 13).trans rfl, (blk_cell BK121.out 14).trans rfl, (blk_cell BK121.out 15).trans rfl, (blk_cell BK121.out 16).trans rfl, (blk_cell BK121.out 17).trans rfl, (blk_cell BK121.out 18).trans rfl, (blk_cell BK121.out 19).trans rfl, ((HB.out.cell (World.block_lt_of_cell? w _ hw122_0)).trans hw122_0), ((HB.out.cell (World.block_lt_of_cell? w _ hw122_1)).trans hw122_1), ((HB.out.cell (World.block_lt_of_cell? w _ hw122_2)).trans hw122_2), ((HB.out.cell (World.block_lt_of_cell? w _ hw122_3)).trans hw122_3), ((HB.out.cell (World.block_lt_of_cell? w _ hw122_4)).trans hw122_4), ((HB.out.cell (World.block_lt_of_cell? w _ hw122_5)).trans hw122_5), ((HB.out.cell (World.block_lt_of_cell? w _ hw122_6)).trans hw122_6), ((HB.out.cell (World.block_lt_of_cell? w _ hw122_7)).trans hw122_7), ((HB.out.cell (World.block_lt_of_cell? w _ hw122_8)).trans hw122_8), ((HB.out.cell (World.block_lt_of_cell? w _ hw122_9)).trans hw122_9), ((HB.out.cell (World.block_lt_of_cell? w _ hw122_10)).trans hw122_10), ((HB.out.cell (World.block_lt_of_cell? w _ hw122_11)).trans hw122_11), ((HB.out.cell (World.block_lt_of_cell? w _ hw122_12)).trans hw122_12), ((HB.out.cell (World.block_lt_of_cell? w _ hw122_13)).trans hw122_13), ((HB.out.cell (World.block_lt_of_cell? w _ hw122_14)).trans hw122_14), ((HB.out.cell (World.block_lt_of_cell? w _ hw122_15)).trans hw122_15), ((HB.out.cell (World.block_lt_of_cell? w _ hw122_16)).trans hw122_16), ((HB.out.cell (World.block_lt_of_cell? w _ hw122_17)).trans hw122_17), ((HB.out.cell (World.block_lt_of_cell? w _ hw122_18)).trans hw122_18), ((HB.out.cell (World.block_lt_of_cell? w _ hw122_19)).trans hw122_19), ((HB.out.cell (World.block_lt_of_cell? w _ hw123_0)).trans hw123_0), ((HB.out.cell (World.block_lt_of_cell? w _ hw123_1)).trans hw123_1), ((HB.out.cell (World.block_lt_of_cell? w _ hw123_2)).trans hw123_2), ((HB.out.cell (World.block_lt_of_cell? w _ hw123_3)).trans hw123_3), ((HB.out.cell (World.block_lt_of_cell? w _ hw123_4)).trans hw123_4), ((HB.out.cell (World.block_lt_of_cell? w _ hw123_5)).trans hw123_5), ((HB.out.cell (World.block_lt_of_cell? w _ hw123_6)).trans hw123_6), ((HB.out.cell (World.block_lt_of_cell? w _ hw123_7)).trans hw123_7), ((HB.out.cell (World.block_lt_of_cell? w _ hw123_8)).trans hw123_8), ((HB.out.cell (World.block_lt_of_cell? w _ hw123_9)).trans hw123_9), ((HB.out.cell (World.block_lt_of_cell? w _ hw123_10)).trans hw123_10), ((HB.out.cell (World.block_lt_of_cell? w _ hw123_11)).trans hw123_11), ((HB.out.cell (World.block_lt_of_cell? w _ hw123_12)).trans hw123_12), ((HB.out.cell (World.block_lt_of_cell? w _ hw123_13)).trans hw123_13), ((HB.out.cell (World.block_lt_of_cell? w _ hw123_14)).trans hw123_14), ((HB.out.cell (World.block_lt_of_cell? w _ hw123_15)).trans hw123_15), ((HB.out.cell (World.block_lt_of_cell? w _ hw123_16)).trans hw123_16), ((HB.out.cell (World.block_lt_of_cell? w _ hw123_17)).trans hw123_17), ((HB.out.cell (World.block_lt_of_cell? w _ hw123_18)).trans hw123_18), ((HB.out.cell (World.block_lt_of_cell? w _ hw123_19)).trans hw123_19)⟩ (fun hHeld => ?_)
                    clear hK K
                    refine norm_ (a' := ?_) ?_ ?_
                    rotate_left
                    · show Act.put _ (some 72) _ = _
                      simp only [Act.put, List.setIfInBounds_toArray, List.set_cons_zero, List.set_cons_succ, i64_w, i32_w]
                      rfl
                    refine pure_ (i := 11) (N := some 73) (v := ?_) (a' := ?_) #[true, true, true, true, true, true, true, true, true, true, true, true] rfl rfl (any_of HT_.out (by kernel_rfl)) (fun _ _ _ h => h) (Or.inl ⟨by rfl, ?_⟩) ?_ ?_
                    rotate_left
                    · intro w'
                      go_simp
                      with_reducible rfl
                    rotate_left
                    · simp only [Act.put, List.setIfInBounds_toArray, List.set_cons_zero, List.set_cons_succ, i64_w, i32_w]
                      rfl
                    refine done_ (done_of HT_.out (by kernel_rfl)) ?_
                    try go_wp2_with (first | ((with_reducible refine gate_load (t := 35) rfl ?_); (try (refine gate_guard (by first | rfl | (go_simp; done) | (go_simp; assumption)) ?_; dsimp only)); refine load_event20 rfl rfl (by first | rfl | (go_simp; done) | (go_simp; rfl)) Tryz.isAgg35 Tryz.sizeOf35 ?_))
                    go_roundg k2
                    case measure => have := HJ2.out; have := HK2.out; omega
                    case rel => exact ⟨(wrap64 (x5_2 + 1)), (by first | rfl | (simp; done) | (simp [*]; done)), H', ⟨by have := HJ2.out; have := HK2.out; omega⟩, ⟨by (with_reducible repeat (first | refine blk_drewN ?_ _ | refine blk_drew ?_ | refine blk_alloc ?_ _)); exact BK120.out⟩, ⟨by (with_reducible repeat (first | refine blk_drewN ?_ _ | refine blk_drew ?_ | refine blk_alloc ?_ _)); exact BK121.out⟩, ⟨by repeat (first | (with_reducible first | exact HB.out | apply below_alloc | apply pw_below_drewN | apply below_drew1 | refine below_set ?_ GE120.out | refine below_set ?_ GE121.out) | exact HB.out)⟩⟩
                  · replace c38 := Bool.eq_false_iff.mpr c38
                    subst c38
                    have H1 : (some false) = some r := by rw [if_neg (show ¬ (false = true) by decide)] at H; exact H
                    clear H
                    have H := H1
                    clear H1
                    obtain rfl := Option.some.inj H
                    have hnb43 := NB120_121.out
                    have hnc43 := NB121_120.out
                    obtain ⟨hcz44_0, hcz44_1, hcz44_2, hcz44_3, hcz44_4, hcz44_5, hcz44_6, hcz44_7, hcz44_8, hcz44_9, hcz44_10, hcz44_11, hcz44_12, hcz44_13, hcz44_14, hcz44_15, hcz44_16, hcz44_17, hcz44_18, hcz44_19⟩ := blk20 BK120.out
                    obtain ⟨hfz44_0, hfz44_1, hfz44_2, hfz44_3, hfz44_4, hfz44_5, hfz44_6, hfz44_7, hfz44_8, hfz44_9, hfz44_10, hfz44_11, hfz44_12, hfz44_13, hfz44_14, hfz44_15, hfz44_16, hfz44_17, hfz44_18, hfz44_19⟩ := frz20 BK120.out
                    try go_wp2_with (first | ((with_reducible refine gate_load (t := 35) rfl ?_); (try (refine gate_guard (by first | rfl | (go_simp; done) | (go_simp; assumption)) ?_; dsimp only)); refine load_event20 rfl rfl (by first | rfl | (go_simp; done) | (go_simp; rfl)) Tryz.isAgg35 Tryz.sizeOf35 ?_))
                    have n0_ := Aside0.mk (blk_drew BK120.out)
                    have n1_ := Aside0.mk (blk_drew BK121.out)
                    have n2_ := Aside0.mk (below_drew1 HB.out)
                    clear BK120
                    clear BK121
                    clear HB
                    have BK120 := n0_
                    have BK121 := n1_
                    have HB := n2_
                    clear n0_ n1_ n2_
                    have p122 : 0 ≤ (x5_2 : Int) := of_decide_eq_true (by first | (with_reducible assumption) | assumption)
                    have q122 : x5_2 < (l0_19.length : Int) := of_decide_eq_true (by first | (with_reducible assumption) | assumption)
                    obtain ⟨ad122, A122_19, c122_19, e122, hx122_0, hx122_1, hx122_2, hx122_3, hx122_4, hx122_5, hx122_6, hx122_7, hx122_8, hx122_9, hx122_10, hx122_11, hx122_12, hx122_13, hx122_14, hx122_15, hx122_16, hx122_17, hx122_18, hx122_19, hl122_19, hi122_19⟩ := at_T35 HR0_19.out x5_2 p122 q122
                    have hw122_19 := hx122_19
                    have hw122_18 := hx122_18
                    have hw122_17 := hx122_17
                    have hw122_16 := hx122_16
                    have hw122_15 := hx122_15
                    have hw122_14 := hx122_14
                    have hw122_13 := hx122_13
                    have hw122_12 := hx122_12
                    have hw122_11 := hx122_11
                    have hw122_10 := hx122_10
                    have hw122_9 := hx122_9
                    have hw122_8 := hx122_8
                    have hw122_7 := hx122_7
                    have hw122_6 := hx122_6
                    have hw122_5 := hx122_5
                    have hw122_4 := hx122_4
                    have hw122_3 := hx122_3
                    have hw122_2 := hx122_2
                    have hw122_1 := hx122_1
                    have hw122_0 := hx122_0
                    cases e122
                    replace hx122_0 := (HB.out.cell (World.block_lt_of_cell? w _ hx122_0)).trans hx122_0
                    replace hx122_1 := (HB.out.cell (World.block_lt_of_cell? w _ hx122_1)).trans hx122_1
                    replace hx122_2 := (HB.out.cell (World.block_lt_of_cell? w _ hx122_2)).trans hx122_2
                    replace hx122_3 := (HB.out.cell (World.block_lt_of_cell? w _ hx122_3)).trans hx122_3
                    replace hx122_4 := (HB.out.cell (World.block_lt_of_cell? w _ hx122_4)).trans hx122_4
                    replace hx122_5 := (HB.out.cell (World.block_lt_of_cell? w _ hx122_5)).trans hx122_5
                    replace hx122_6 := (HB.out.cell (World.block_lt_of_cell? w _ hx122_6)).trans hx122_6
                    replace hx122_7 := (HB.out.cell (World.block_lt_of_cell? w _ hx122_7)).trans hx122_7
                    replace hx122_8 := (HB.out.cell (World.block_lt_of_cell? w _ hx122_8)).trans hx122_8
                    replace hx122_9 := (HB.out.cell (World.block_lt_of_cell? w _ hx122_9)).trans hx122_9
                    replace hx122_10 := (HB.out.cell (World.block_lt_of_cell? w _ hx122_10)).trans hx122_10
                    replace hx122_11 := (HB.out.cell (World.block_lt_of_cell? w _ hx122_11)).trans hx122_11
                    replace hx122_12 := (HB.out.cell (World.block_lt_of_cell? w _ hx122_12)).trans hx122_12
                    replace hx122_13 := (HB.out.cell (World.block_lt_of_cell? w _ hx122_13)).trans hx122_13
                    replace hx122_14 := (HB.out.cell (World.block_lt_of_cell? w _ hx122_14)).trans hx122_14
                    replace hx122_15 := (HB.out.cell (World.block_lt_of_cell? w _ hx122_15)).trans hx122_15
                    replace hx122_16 := (HB.out.cell (World.block_lt_of_cell? w _ hx122_16)).trans hx122_16
                    replace hx122_17 := (HB.out.cell (World.block_lt_of_cell? w _ hx122_17)).trans hx122_17
                    replace hx122_18 := (HB.out.cell (World.block_lt_of_cell? w _ hx122_18)).trans hx122_18
                    replace hx122_19 := (HB.out.cell (World.block_lt_of_cell? w _ hx122_19)).trans hx122_19
                    have HR122_19 := Aside0.mk hi122_19
                    have HC122_19 := Aside0.mk hl122_19
                    clear hi122_19 hl122_19
                    replace p122 := eq_true p122
                    replace q122 := eq_true q122
                    have p123 : 0 ≤ (x5_2 : Int) := of_decide_eq_true (by first | (with_reducible assumption) | assumption)
                    have q123 : x5_2 < (l1_19.length : Int) := of_decide_eq_true (by first | (with_reducible assumption) | assumption)
                    obtain ⟨ad123, A123_19, c123_19, e123, hx123_0, hx123_1, hx123_2, hx123_3, hx123_4, hx123_5, hx123_6, hx123_7, hx123_8, hx123_9, hx123_10, hx123_11, hx123_12, hx123_13, hx123_14, hx123_15, hx123_16, hx123_17, hx123_18, hx123_19, hl123_19, hi123_19⟩ := at_T35 HR1_19.out x5_2 p123 q123
                    have hw123_19 := hx123_19
                    have hw123_18 := hx123_18
                    have hw123_17 := hx123_17
                    have hw123_16 := hx123_16
                    have hw123_15 := hx123_15
                    have hw123_14 := hx123_14
                    have hw123_13 := hx123_13
                    have hw123_12 := hx123_12
                    have hw123_11 := hx123_11
                    have hw123_10 := hx123_10
                    have hw123_9 := hx123_9
                    have hw123_8 := hx123_8
                    have hw123_7 := hx123_7
                    have hw123_6 := hx123_6
                    have hw123_5 := hx123_5
                    have hw123_4 := hx123_4
                    have hw123_3 := hx123_3
                    have hw123_2 := hx123_2
                    have hw123_1 := hx123_1
                    have hw123_0 := hx123_0
                    cases e123
                    replace hx123_0 := (HB.out.cell (World.block_lt_of_cell? w _ hx123_0)).trans hx123_0
                    replace hx123_1 := (HB.out.cell (World.block_lt_of_cell? w _ hx123_1)).trans hx123_1
                    replace hx123_2 := (HB.out.cell (World.block_lt_of_cell? w _ hx123_2)).trans hx123_2
                    replace hx123_3 := (HB.out.cell (World.block_lt_of_cell? w _ hx123_3)).trans hx123_3
                    replace hx123_4 := (HB.out.cell (World.block_lt_of_cell? w _ hx123_4)).trans hx123_4
                    replace hx123_5 := (HB.out.cell (World.block_lt_of_cell? w _ hx123_5)).trans hx123_5
                    replace hx123_6 := (HB.out.cell (World.block_lt_of_cell? w _ hx123_6)).trans hx123_6
                    replace hx123_7 := (HB.out.cell (World.block_lt_of_cell? w _ hx123_7)).trans hx123_7
                    replace hx123_8 := (HB.out.cell (World.block_lt_of_cell? w _ hx123_8)).trans hx123_8
                    replace hx123_9 := (HB.out.cell (World.block_lt_of_cell? w _ hx123_9)).trans hx123_9
                    replace hx123_10 := (HB.out.cell (World.block_lt_of_cell? w _ hx123_10)).trans hx123_10
                    replace hx123_11 := (HB.out.cell (World.block_lt_of_cell? w _ hx123_11)).trans hx123_11
                    replace hx123_12 := (HB.out.cell (World.block_lt_of_cell? w _ hx123_12)).trans hx123_12
                    replace hx123_13 := (HB.out.cell (World.block_lt_of_cell? w _ hx123_13)).trans hx123_13
                    replace hx123_14 := (HB.out.cell (World.block_lt_of_cell? w _ hx123_14)).trans hx123_14
                    replace hx123_15 := (HB.out.cell (World.block_lt_of_cell? w _ hx123_15)).trans hx123_15
                    replace hx123_16 := (HB.out.cell (World.block_lt_of_cell? w _ hx123_16)).trans hx123_16
                    replace hx123_17 := (HB.out.cell (World.block_lt_of_cell? w _ hx123_17)).trans hx123_17
                    replace hx123_18 := (HB.out.cell (World.block_lt_of_cell? w _ hx123_18)).trans hx123_18
                    replace hx123_19 := (HB.out.cell (World.block_lt_of_cell? w _ hx123_19)).trans hx123_19
                    have HR123_19 := Aside0.mk hi123_19
                    have HC123_19 := Aside0.mk hl123_19
                    clear hi123_19 hl123_19
                    replace p123 := eq_true p123
                    replace q123 := eq_true q123
                    refine start_ (n := 12) (S := fun w' => w'.cell? ⟨gb120, 0, none⟩ = some (.int .i64 a0_0) ∧ w'.cell? ⟨gb120, 1, none⟩ = some (.int .i64 a0_1) ∧ w'.cell? ⟨gb120, 2, none⟩ = some (.int .i64 a0_2) ∧ w'.cell? ⟨gb120, 3, none⟩ = some (.int .i64 a0_3) ∧ w'.cell? ⟨gb120, 4, none⟩ = some (.string a0_4) ∧ w'.cell? ⟨gb120, 5, none⟩ = some (.bool a0_5) ∧ w'.cell? ⟨gb120, 6, none⟩ = some (.int .i64 a0_6) ∧ w'.cell? ⟨gb120, 7, none⟩ = some (.string a0_7) ∧ w'.cell? ⟨gb120, 8, none⟩ = some (.int .i64 a0_8) ∧ w'.cell? ⟨gb120, 9, none⟩ = some (.int .i64 a0_9) ∧ w'.cell? ⟨gb120, 10, none⟩ = some (.bool a0_10) ∧ w'.cell? ⟨gb120, 11, none⟩ = some (.bool a0_11) ∧ w'.cell? ⟨gb120, 12, none⟩ = some (.string a0_12) ∧ w'.cell? ⟨gb120, 13, none⟩ = some (.int .i64 a0_13) ∧ w'.cell? ⟨gb120, 14, none⟩ = some (.int .i64 a0_14) ∧ w'.cell? ⟨gb120, 15, none⟩ = some (.bool a0_15) ∧ w'.cell? ⟨gb120, 16, none⟩ = some (.bool a0_16) ∧ w'.cell? ⟨gb120, 17, none⟩ = some (.string a0_17) ∧ w'.cell? ⟨gb120, 18, none⟩ = some (.int .i64 a0_18) ∧ w'.cell? ⟨gb120, 19, none⟩ = some (.slice (some ad122) l0_19.length c0_19) ∧ w'.cell? ⟨gb121, 0, none⟩ = some (.int .i64 a1_0) ∧ w'.cell? ⟨gb121, 1, none⟩ = some (.int .i64 a1_1) ∧ w'.cell? ⟨gb121, 2, none⟩ = some (.int .i64 a1_2) ∧ w'.cell? ⟨gb121, 3, none⟩ = some (.int .i64 a1_3) ∧ w'.cell? ⟨gb121, 4, none⟩ = some (.string a1_4) ∧ w'.cell? ⟨gb121, 5, none⟩ = some (.bool a1_5) ∧ w'.cell? ⟨gb121, 6, none⟩ = some (.int .i64 a1_6) ∧ w'.cell? ⟨gb121, 7, none⟩ = some (.string a1_7) ∧ w'.cell? ⟨gb121, 8, none⟩ = some (.int .i64 a1_8) ∧ w'.cell? ⟨gb121, 9, none⟩ = some (.int .i64 a1_9) ∧ w'.cell? ⟨gb121, 10, none⟩ = some (.bool a1_10) ∧ w'.cell? ⟨gb121, 11, none⟩ = some (.bool a1_11) ∧ w'.cell? ⟨gb121, 12, none⟩ = some (.string a1_12) ∧ w'.cell? ⟨gb121, 13, none⟩ = some (.int .i64 a1_13) ∧ w'.cell? ⟨gb121, 14, none⟩ = some (.int .i64 a1_14) ∧ w'.cell? ⟨gb121, 15, none⟩ = some (.bool a1_15) ∧ w'.cell? ⟨gb121, 16, none⟩ = some (.bool a1_16) ∧ w'.cell? ⟨gb121, 17, none⟩ = some (.string a1_17) ∧ w'.cell? ⟨gb121, 18, none⟩ = some (.int .i64 a1_18) ∧ w'.cell? ⟨gb121, 19, none⟩ = some (.slice (some ad123) l1_19.length c1_19) ∧ w'.cell? (ad122.add ((x5_2).toNat * 20)) = some (.int .i64 ((rd_T35 l0_19 x5_2).f0)) ∧ w'.cell? ⟨(ad122.add ((x5_2).toNat * 20)).block, (ad122.add ((x5_2).toNat * 20)).off + 1, none⟩ = some (.int .i64 ((rd_T35 l0_19 x5_2).f1.f0)) ∧ w'.cell? ⟨(ad122.add ((x5_2).toNat * 20)).block, (ad122.add ((x5_2).toNat * 20)).off + 2, none⟩ = some (.int .i64 ((rd_T35 l0_19 x5_2).f1.f1.f0)) ∧ w'.cell? ⟨(ad122.add ((x5_2).toNat * 20)).block, (ad122.add ((x5_2).toNat * 20)).off + 3, none⟩ = some (.int .i64 ((rd_T35 l0_19 x5_2).f1.f1.f1)) ∧ w'.cell? ⟨(ad122.add ((x5_2).toNat * 20)).block, (ad122.add ((x5_2).toNat * 20)).off + 4, none⟩ = some (.string ((rd_T35 l0_19 x5_2).f1.f2)) ∧ w'.cell? ⟨(ad122.add ((x5_2).toNat * 20)).block, (ad122.add ((x5_2).toNat * 20)).off + 5, none⟩ = some (.bool ((rd_T35 l0_19 x5_2).f1.f3)) ∧ w'.cell? ⟨(ad122.add ((x5_2).toNat * 20)).block, (ad122.add ((x5_2).toNat * 20)).off + 6, none⟩ = some (.int .i64 ((rd_T35 l0_19 x5_2).f1.f4)) ∧ w'.cell? ⟨(ad122.add ((x5_2).toNat * 20)).block, (ad122.add ((x5_2).toNat * 20)).off + 7, none⟩ = some (.string ((rd_T35 l0_19 x5_2).f2.f0)) ∧ w'.cell? ⟨(ad122.add ((x5_2).toNat * 20)).block, (ad122.add ((x5_2).toNat * 20)).off + 8, none⟩ = some (.int .i64 ((rd_T35 l0_19 x5_2).f2.f1)) ∧ w'.cell? ⟨(ad122.add ((x5_2).toNat * 20)).block, (ad122.add ((x5_2).toNat * 20)).off + 9, none⟩ = some (.int .i64 ((rd_T35 l0_19 x5_2).f2.f2)) ∧ w'.cell? ⟨(ad122.add ((x5_2).toNat * 20)).block, (ad122.add ((x5_2).toNat * 20)).off + 10, none⟩ = some (.bool ((rd_T35 l0_19 x5_2).f2.f3)) ∧ w'.cell? ⟨(ad122.add ((x5_2).toNat * 20)).block, (ad122.add ((x5_2).toNat * 20)).off + 11, none⟩ = some (.bool ((rd_T35 l0_19 x5_2).f2.f4)) ∧ w'.cell? ⟨(ad122.add ((x5_2).toNat * 20)).block, (ad122.add ((x5_2).toNat * 20)).off + 12, none⟩ = some (.string ((rd_T35 l0_19 x5_2).f3.f0)) ∧ w'.cell? ⟨(ad122.add ((x5_2).toNat * 20)).block, (ad122.add ((x5_2).toNat * 20)).off + 13, none⟩ = some (.int .i64 ((rd_T35 l0_19 x5_2).f3.f1)) ∧ w'.cell? ⟨(ad122.add ((x5_2).toNat * 20)).block, (ad122.add ((x5_2).toNat * 20)).off + 14, none⟩ = some (.int .i64 ((rd_T35 l0_19 x5_2).f3.f2)) ∧ w'.cell? ⟨(ad122.add ((x5_2).toNat * 20)).block, (ad122.add ((x5_2).toNat * 20)).off + 15, none⟩ = some (.bool ((rd_T35 l0_19 x5_2).f3.f3)) ∧ w'.cell? ⟨(ad122.add ((x5_2).toNat * 20)).block, (ad122.add ((x5_2).toNat * 20)).off + 16, none⟩ = some (.bool ((rd_T35 l0_19 x5_2).f3.f4)) ∧ w'.cell? ⟨(ad122.add ((x5_2).toNat * 20)).block, (ad122.add ((x5_2).toNat * 20)).off + 17, none⟩ = some (.string ((rd_T35 l0_19 x5_2).f4)) ∧ w'.cell? ⟨(ad122.add ((x5_2).toNat * 20)).block, (ad122.add ((x5_2).toNat * 20)).off + 18, none⟩ = some (.int .i64 ((rd_T35 l0_19 x5_2).f5)) ∧ w'.cell? ⟨(ad122.add ((x5_2).toNat * 20)).block, (ad122.add ((x5_2).toNat * 20)).off + 19, none⟩ = some (.slice A122_19 ((rd_T35 l0_19 x5_2).f6).length c122_19) ∧ w'.cell? (ad123.add ((x5_2).toNat * 20)) = some (.int .i64 ((rd_T35 l1_19 x5_2).f0)) ∧ w'.cell? ⟨(ad123.add ((x5_2).toNat * 20)).block, (ad123.add ((x5_2).toNat * 20)).off + 1, none⟩ = some (.int .i64 ((rd_T35 l1_19 x5_2).f1.f0)) ∧ w'.cell? ⟨(ad123.add ((x5_2).toNat * 20)).block, (ad123.add ((x5_2).toNat * 20)).off + 2, none⟩ = some (.int .i64 ((rd_T35 l1_19 x5_2).f1.f1.f0)) ∧ w'.cell? ⟨(ad123.add ((x5_2).toNat * 20)).block, (ad123.add ((x5_2).toNat * 20)).off + 3, none⟩ = some (.int .i64 ((rd_T35 l1_19 x5_2).f1.f1.f1)) ∧ w'.cell? ⟨(ad123.add ((x5_2).toNat * 20)).block, (ad123.add ((x5_2).toNat * 20)).off + 4, none⟩ = some (.string ((rd_T35 l1_19 x5_2).f1.f2)) ∧ w'.cell? ⟨(ad123.add ((x5_2).toNat * 20)).block, (ad123.add ((x5_2).toNat * 20)).off + 5, none⟩ = some (.bool ((rd_T35 l1_19 x5_2).f1.f3)) ∧ w'.cell? ⟨(ad123.add ((x5_2).toNat * 20)).block, (ad123.add ((x5_2).toNat * 20)).off + 6, none⟩ = some (.int .i64 ((rd_T35 l1_19 x5_2).f1.f4)) ∧ w'.cell? ⟨(ad123.add ((x5_2).toNat * 20)).block, (ad123.add ((x5_2).toNat * 20)).off + 7, none⟩ = some (.string ((rd_T35 l1_19 x5_2).f2.f0)) ∧ w'.cell? ⟨(ad123.add ((x5_2).toNat * 20)).block, (ad123.add ((x5_2).toNat * 20)).off + 8, none⟩ = some (.int .i64 ((rd_T35 l1_19 x5_2).f2.f1)) ∧ w'.cell? ⟨(ad123.add ((x5_2).toNat * 20)).block, (ad123.add ((x5_2).toNat * 20)).off + 9, none⟩ = some (.int .i64 ((rd_T35 l1_19 x5_2).f2.f2)) ∧ w'.cell? ⟨(ad123.add ((x5_2).toNat * 20)).block, (ad123.add ((x5_2).toNat * 20)).off + 10, none⟩ = some (.bool ((rd_T35 l1_19 x5_2).f2.f3)) ∧ w'.cell? ⟨(ad123.add ((x5_2).toNat * 20)).block, (ad123.add ((x5_2).toNat * 20)).off + 11, none⟩ = some (.bool ((rd_T35 l1_19 x5_2).f2.f4)) ∧ w'.cell? ⟨(ad123.add ((x5_2).toNat * 20)).block, (ad123.add ((x5_2).toNat * 20)).off + 12, none⟩ = some (.string ((rd_T35 l1_19 x5_2).f3.f0)) ∧ w'.cell? ⟨(ad123.add ((x5_2).toNat * 20)).block, (ad123.add ((x5_2).toNat * 20)).off + 13, none⟩ = some (.int .i64 ((rd_T35 l1_19 x5_2).f3.f1)) ∧ w'.cell? ⟨(ad123.add ((x5_2).toNat * 20)).block, (ad123.add ((x5_2).toNat * 20)).off + 14, none⟩ = some (.int .i64 ((rd_T35 l1_19 x5_2).f3.f2)) ∧ w'.cell? ⟨(ad123.add ((x5_2).toNat * 20)).block, (ad123.add ((x5_2).toNat * 20)).off + 15, none⟩ = some (.bool ((rd_T35 l1_19 x5_2).f3.f3)) ∧ w'.cell? ⟨(ad123.add ((x5_2).toNat * 20)).block, (ad123.add ((x5_2).toNat * 20)).off + 16, none⟩ = some (.bool ((rd_T35 l1_19 x5_2).f3.f4)) ∧ w'.cell? ⟨(ad123.add ((x5_2).toNat * 20)).block, (ad123.add ((x5_2).toNat * 20)).off + 17, none⟩ = some (.string ((rd_T35 l1_19 x5_2).f4)) ∧ w'.cell? ⟨(ad123.add ((x5_2).toNat * 20)).block, (ad123.add ((x5_2).toNat * 20)).off + 18, none⟩ = some (.int .i64 ((rd_T35 l1_19 x5_2).f5)) ∧ w'.cell? ⟨(ad123.add ((x5_2).toNat * 20)).block, (ad123.add ((x5_2).toNat * 20)).off + 19, none⟩ = some (.slice A123_19 ((rd_T35 l1_19 x5_2).f6).length c123_19)) (ds := []) #[false, false, false, false, false, false, false, false, false, false, false, false] (by kernel_rfl) rfl rfl ⟨(blk_cell BK120.out 0).trans rfl, (blk_cell BK120.out 1).trans rfl, (blk_cell BK120.out 2).trans rfl, (blk_cell BK120.out 3).trans rfl, (blk_cell BK120.out 4).trans rfl, (blk_cell BK120.out 5).trans rfl, (blk_cell BK120.out 6).trans rfl, (blk_cell BK120.out 7).trans rfl, (blk_cell BK120.out 8).trans rfl, (blk_cell BK120.out 9).trans rfl, (blk_cell BK120.out 10).trans rfl, (blk_cell BK120.out 11).trans rfl, (blk_cell BK120.out 12).trans rfl, (blk_cell BK120.out 13).trans rfl, (blk_cell BK120.out 14).trans rfl, (blk_cell BK120.out 15).trans rfl, (blk_cell BK120.out 16).trans rfl, (blk_cell BK120.out 17).trans rfl, (blk_cell BK120.out 18).trans rfl, (blk_cell BK120.out 19).trans rfl, (blk_cell BK121.out 0).trans rfl, (blk_cell BK121.out 1).trans rfl, (blk_cell BK121.out 2).trans rfl, (blk_cell BK121.out 3).trans rfl, (blk_cell BK121.out 4).trans rfl, (blk_cell BK121.out 5).trans rfl, (blk_cell BK121.out 6).trans rfl, (blk_cell BK121.out 7).trans rfl, (blk_cell BK121.out 8).trans rfl, (blk_cell BK121.out 9).trans rfl, (blk_cell BK121.out 10).trans rfl, (blk_cell BK121.out 11).trans rfl, (blk_cell BK121.out 12).trans rfl, (blk_cell BK121.out 13).trans rfl, (blk_cell BK121.out 14).trans rfl, (blk_cell BK121.out 15).trans rfl, (blk_cell BK121.out 16).trans rfl, (blk_cell BK121.out 17).trans rfl, (blk_cell BK121.out 18).trans rfl, (blk_cell BK121.out 19).trans rfl, ((HB.out.cell (World.block_lt_of_cell? w _ hw122_0)).trans hw122_0), ((HB.out.cell (World.block_lt_of_cell? w _ hw122_1)).trans hw122_1), ((HB.out.cell (World.block_lt_of_cell? w _ hw122_2)).trans hw122_2), ((HB.out.cell (World.block_lt_of_cell? w _ hw122_3)).trans hw122_3), ((HB.out.cell (World.block_lt_of_cell? w _ hw122_4)).trans hw122_4), ((HB.out.cell (World.block_lt_of_cell? w _ hw122_5)).trans hw122_5), ((HB.out.cell (World.block_lt_of_cell? w _ hw122_6)).trans hw122_6), ((HB.out.cell (World.block_lt_of_cell? w _ hw122_7)).trans hw122_7), ((HB.out.cell (World.block_lt_of_cell? w _ hw122_8)).trans hw122_8), ((HB.out.cell (World.block_lt_of_cell? w _ hw122_9)).trans hw122_9), ((HB.out.cell (World.block_lt_of_cell? w _ hw122_10)).trans hw122_10), ((HB.out.cell (World.block_lt_of_cell? w _ hw122_11)).trans hw122_11), ((HB.out.cell (World.block_lt_of_cell? w _ hw122_12)).trans hw122_12), ((HB.out.cell (World.block_lt_of_cell? w _ hw122_13)).trans hw122_13), ((HB.out.cell (World.block_lt_of_cell? w _ hw122_14)).trans hw122_14), ((HB.out.cell (World.block_lt_of_cell? w _ hw122_15)).trans hw122_15), ((HB.out.cell (World.block_lt_of_cell? w _ hw122_16)).trans hw122_16), ((HB.out.cell (World.block_lt_of_cell? w _ hw122_17)).trans hw122_17), ((HB.out.cell (World.block_lt_of_cell? w _ hw122_18)).trans hw122_18), ((HB.out.cell (World.block_lt_of_cell? w _ hw122_19)).trans hw122_19), ((HB.out.cell (World.block_lt_of_cell? w _ hw123_0)).trans hw123_0), ((HB.out.cell (World.block_lt_of_cell? w _ hw123_1)).trans hw123_1), ((HB.out.cell (World.block_lt_of_cell? w _ hw123_2)).trans hw123_2), ((HB.out.cell (World.block_lt_of_cell? w _ hw123_3)).trans hw123_3), ((HB.out.cell (World.block_lt_of_cell? w _ hw123_4)).trans hw123_4), ((HB.out.cell (World.block_lt_of_cell? w _ hw123_5)).trans hw123_5), ((HB.out.cell (World.block_lt_of_cell? w _ hw123_6)).trans hw123_6), ((HB.out.cell (World.block_lt_of_cell? w _ hw123_7)).trans hw123_7), ((HB.out.cell (World.block_lt_of_cell? w _ hw123_8)).trans hw123_8), ((HB.out.cell (World.block_lt_of_cell? w _ hw123_9)).trans hw123_9), ((HB.out.cell (World.block_lt_of_cell? w _ hw123_10)).trans hw123_10), ((HB.out.cell (World.block_lt_of_cell? w _ hw123_11)).trans hw123_11), ((HB.out.cell (World.block_lt_of_cell? w _ hw123_12)).trans hw123_12), ((HB.out.cell (World.block_lt_of_cell? w _ hw123_13)).trans hw123_13), ((HB.out.cell (World.block_lt_of_cell? w _ hw123_14)).trans hw123_14), ((HB.out.cell (World.block_lt_of_cell? w _ hw123_15)).trans hw123_15), ((HB.out.cell (World.block_lt_of_cell? w _ hw123_16)).trans hw123_16), ((HB.out.cell (World.block_lt_of_cell? w _ hw123_17)).trans hw123_17), ((HB.out.cell (World.block_lt_of_cell? w _ hw123_18)).trans hw123_18), ((HB.out.cell (World.block_lt_of_cell? w _ hw123_19)).trans hw123_19)⟩ (fun hHeld => ?_); refine with_tabW quireref12_Same.tab6 quireref12_Same.bits6 (fun HT_ HW_ => ?_)
                    generalize wr.drew = w45 at BK120 BK121 HB HR122_19 HR123_19 hx122_0 hx122_1 hx122_10 hx122_11 hx122_12 hx122_13 hx122_14 hx122_15 hx122_16 hx122_17 hx122_18 hx122_19 hx122_2 hx122_3 hx122_4 hx122_5 hx122_6 hx122_7 hx122_8 hx122_9 hx123_0 hx123_1 hx123_10 hx123_11 hx123_12 hx123_13 hx123_14 hx123_15 hx123_16 hx123_17 hx123_18 hx123_19 hx123_2 hx123_3 hx123_4 hx123_5 hx123_6 hx123_7 hx123_8 hx123_9 hHeld ⊢
                    refine pure_ (i := 0) (N := some 62) (v := ?_) (a' := ?_) #[true, false, false, false, false, false, false, false, false, false, false, false] rfl rfl (any_of HT_.out (by kernel_rfl)) (fun _ _ _ h => h) (Or.inl ⟨by rfl, ?_⟩) ?_ ?_
                    rotate_left
                    · intro w'
                      go_simp
                      with_reducible rfl
                    rotate_left
                    · simp only [Act.put, List.setIfInBounds_toArray, List.set_cons_zero, List.set_cons_succ, i64_w, i32_w]
                      rfl
                    refine pure_ (i := 2) (N := some 64) (v := ?_) (a' := ?_) #[true, false, true, false, false, false, false, false, false, false, false, false] rfl rfl (any_of HT_.out (by kernel_rfl)) (fun _ _ _ h => h) (Or.inl ⟨by rfl, ?_⟩) ?_ ?_
                    rotate_left
                    · intro w'
                      go_simp
                      with_reducible rfl
                    rotate_left
                    · simp only [Act.put, List.setIfInBounds_toArray, List.set_cons_zero, List.set_cons_succ, i64_w, i32_w]
                      rfl
                    refine pure_ (i := 5) (N := some 67) (v := ?_) (a' := ?_) #[true, false, true, false, false, true, false, false, false, false, false, false] rfl rfl (any_of HT_.out (by kernel_rfl)) (fun _ _ _ h => h) (Or.inl ⟨by rfl, ?_⟩) ?_ ?_
                    rotate_left
                    · intro w'
                      go_simp
                      with_reducible rfl
                    rotate_left
                    · simp only [Act.put, List.setIfInBounds_toArray, List.set_cons_zero, List.set_cons_succ, i64_w, i32_w]
                      rfl
                    refine pure_ (i := 7) (N := some 69) (v := ?_) (a' := ?_) #[true, false, true, false, false, true, false, true, false, false, false, false] rfl rfl (any_of HT_.out (by kernel_rfl)) (fun _ _ _ h => h) (Or.inl ⟨by rfl, ?_⟩) ?_ ?_
                    rotate_left
                    · intro w'
                      go_simp
                      with_reducible rfl
                    rotate_left
                    · simp only [Act.put, List.setIfInBounds_toArray, List.set_cons_zero, List.set_cons_succ, i64_w, i32_w]
                      rfl
                    refine take_ (i := 1) (N := some 63) (v := ?_) (a' := ?_) #[true, true, true, false, false, true, false, true, false, false, false, false] rfl rfl (take_ofW HT_.out HW_.out (by kernel_rfl)) (fun _ _ _ h => h) (Or.inl ⟨by rfl, ?_⟩) hHeld ?_ ?_
                    rotate_left
                    · rintro w' ⟨s0, s1, s2, s3, s4, s5, s6, s7, s8, s9, s10, s11, s12, s13, s14, s15, s16, s17, s18, s19, s20, s21, s22, s23, s24, s25, s26, s27, s28, s29, s30, s31, s32, s33, s34, s35, s36, s37, s38, s39, s40, s41, s42, s43, s44, s45, s46, s47, s48, s49, s50, s51, s52, s53, s54, s55, s56, s57, s58, s59, s60, s61, s62, s63, s64, s65, s66, s67, s68, s69, s70, s71, s72, s73, s74, s75, s76, s77, s78, s79⟩
                      first | (refine Eq.trans (load_run20 (t := 35) (by exact rfl) (by first | rfl | (go_simp; done) | (go_simp; rfl)) Tryz.isAgg35 Tryz.sizeOf35) ?_; with_reducible rfl) | (go_simp; with_reducible rfl)
                    rotate_left
                    · simp only [Act.put, List.setIfInBounds_toArray, List.set_cons_zero, List.set_cons_succ, i64_w, i32_w]
                      rfl
                    refine pure_ (i := 3) (N := some 65) (v := ?_) (a' := ?_) #[true, true, true, true, false, true, false, true, false, false, false, false] rfl rfl (any_of HT_.out (by kernel_rfl)) (fun _ _ _ h => h) (Or.inl ⟨by rfl, ?_⟩) ?_ ?_
                    rotate_left
                    · intro w'
                      go_simp
                      with_reducible rfl
                    rotate_left
                    · simp only [Act.put, List.setIfInBounds_toArray, List.set_cons_zero, List.set_cons_succ, i64_w, i32_w]
                      rfl
                    refine take_ (i := 4) (N := some 66) (v := ?_) (a' := ?_) #[true, true, true, true, true, true, false, true, false, false, false, false] rfl rfl (take_ofW HT_.out HW_.out (by kernel_rfl)) (fun _ _ _ h => h) (Or.inl ⟨by rfl, ?_⟩) hHeld ?_ ?_
                    rotate_left
                    · rintro w' ⟨s0, s1, s2, s3, s4, s5, s6, s7, s8, s9, s10, s11, s12, s13, s14, s15, s16, s17, s18, s19, s20, s21, s22, s23, s24, s25, s26, s27, s28, s29, s30, s31, s32, s33, s34, s35, s36, s37, s38, s39, s40, s41, s42, s43, s44, s45, s46, s47, s48, s49, s50, s51, s52, s53, s54, s55, s56, s57, s58, s59, s60, s61, s62, s63, s64, s65, s66, s67, s68, s69, s70, s71, s72, s73, s74, s75, s76, s77, s78, s79⟩
                      first | (refine Eq.trans (load_run20 (t := 35) (by exact rfl) (by first | rfl | (go_simp; done) | (go_simp; rfl)) Tryz.isAgg35 Tryz.sizeOf35) ?_; with_reducible rfl) | (go_simp; with_reducible rfl)
                    rotate_left
                    · simp only [Act.put, List.setIfInBounds_toArray, List.set_cons_zero, List.set_cons_succ, i64_w, i32_w]
                      rfl
                    refine take_ (i := 6) (N := some 68) (v := ?_) (a' := ?_) #[true, true, true, true, true, true, true, true, false, false, false, false] rfl rfl (take_ofW HT_.out HW_.out (by kernel_rfl)) (fun _ _ _ h => h) (Or.inl ⟨by rfl, ?_⟩) hHeld ?_ ?_
                    rotate_left
                    · rintro w' ⟨s0, s1, s2, s3, s4, s5, s6, s7, s8, s9, s10, s11, s12, s13, s14, s15, s16, s17, s18, s19, s20, s21, s22, s23, s24, s25, s26, s27, s28, s29, s30, s31, s32, s33, s34, s35, s36, s37, s38, s39, s40, s41, s42, s43, s44, s45, s46, s47, s48, s49, s50, s51, s52, s53, s54, s55, s56, s57, s58, s59, s60, s61, s62, s63, s64, s65, s66, s67, s68, s69, s70, s71, s72, s73, s74, s75, s76, s77, s78, s79⟩
                      first | (refine Eq.trans (load_run20 (t := 35) (by exact rfl) (by first | rfl | (go_simp; done) | (go_simp; rfl)) Tryz.isAgg35 Tryz.sizeOf35) ?_; with_reducible rfl) | (go_simp; with_reducible rfl)
                    rotate_left
                    · simp only [Act.put, List.setIfInBounds_toArray, List.set_cons_zero, List.set_cons_succ, i64_w, i32_w]
                      rfl
                    refine pure_ (i := 8) (N := some 70) (v := ?_) (a' := ?_) #[true, true, true, true, true, true, true, true, true, false, false, false] rfl rfl (any_of HT_.out (by kernel_rfl)) (fun _ _ _ h => h) (Or.inl ⟨by rfl, ?_⟩) ?_ ?_
                    rotate_left
                    · intro w'
                      go_simp
                      with_reducible rfl
                    rotate_left
                    · simp only [Act.put, List.setIfInBounds_toArray, List.set_cons_zero, List.set_cons_succ, i64_w, i32_w]
                      rfl
                    refine take_ (i := 9) (N := some 71) (v := ?_) (a' := ?_) #[true, true, true, true, true, true, true, true, true, true, false, false] rfl rfl (take_ofW HT_.out HW_.out (by kernel_rfl)) (fun _ _ _ h => h) (Or.inl ⟨by rfl, ?_⟩) hHeld ?_ ?_
                    rotate_left
                    · rintro w' ⟨s0, s1, s2, s3, s4, s5, s6, s7, s8, s9, s10, s11, s12, s13, s14, s15, s16, s17, s18, s19, s20, s21, s22, s23, s24, s25, s26, s27, s28, s29, s30, s31, s32, s33, s34, s35, s36, s37, s38, s39, s40, s41, s42, s43, s44, s45, s46, s47, s48, s49, s50, s51, s52, s53, s54, s55, s56, s57, s58, s59, s60, s61, s62, s63, s64, s65, s66, s67, s68, s69, s70, s71, s72, s73, s74, s75, s76, s77, s78, s79⟩
                      first | (refine Eq.trans (load_run20 (t := 35) (by exact rfl) (by first | rfl | (go_simp; done) | (go_simp; rfl)) Tryz.isAgg35 Tryz.sizeOf35) ?_; with_reducible rfl) | (go_simp; with_reducible rfl)
                    rotate_left
                    · simp only [Act.put, List.setIfInBounds_toArray, List.set_cons_zero, List.set_cons_succ, i64_w, i32_w]
                      rfl
                    refine one_ (i := 10) (N := some 72) #[true, true, true, true, true, true, true, true, true, true, true, false] rfl rfl (one_of HT_.out (by kernel_rfl)) (by decide) (fun K hK => ?_)
                    refine goes_ Tryz.func51 (by kernel_rfl) rfl #[.agg #[.int .i64 ((rd_T35 l0_19 x5_2).f0), .int .i64 ((rd_T35 l0_19 x5_2).f1.f0), .int .i64 ((rd_T35 l0_19 x5_2).f1.f1.f0), .int .i64 ((rd_T35 l0_19 x5_2).f1.f1.f1), .string ((rd_T35 l0_19 x5_2).f1.f2), .bool ((rd_T35 l0_19 x5_2).f1.f3), .int .i64 ((rd_T35 l0_19 x5_2).f1.f4), .string ((rd_T35 l0_19 x5_2).f2.f0), .int .i64 ((rd_T35 l0_19 x5_2).f2.f1), .int .i64 ((rd_T35 l0_19 x5_2).f2.f2), .bool ((rd_T35 l0_19 x5_2).f2.f3), .bool ((rd_T35 l0_19 x5_2).f2.f4), .string ((rd_T35 l0_19 x5_2).f3.f0), .int .i64 ((rd_T35 l0_19 x5_2).f3.f1), .int .i64 ((rd_T35 l0_19 x5_2).f3.f2), .bool ((rd_T35 l0_19 x5_2).f3.f3), .bool ((rd_T35 l0_19 x5_2).f3.f4), .string ((rd_T35 l0_19 x5_2).f4), .int .i64 ((rd_T35 l0_19 x5_2).f5), .slice A122_19 ((rd_T35 l0_19 x5_2).f6).length c122_19], .agg #[.int .i64 ((rd_T35 l1_19 x5_2).f0), .int .i64 ((rd_T35 l1_19 x5_2).f1.f0), .int .i64 ((rd_T35 l1_19 x5_2).f1.f1.f0), .int .i64 ((rd_T35 l1_19 x5_2).f1.f1.f1), .string ((rd_T35 l1_19 x5_2).f1.f2), .bool ((rd_T35 l1_19 x5_2).f1.f3), .int .i64 ((rd_T35 l1_19 x5_2).f1.f4), .string ((rd_T35 l1_19 x5_2).f2.f0), .int .i64 ((rd_T35 l1_19 x5_2).f2.f1), .int .i64 ((rd_T35 l1_19 x5_2).f2.f2), .bool ((rd_T35 l1_19 x5_2).f2.f3), .bool ((rd_T35 l1_19 x5_2).f2.f4), .string ((rd_T35 l1_19 x5_2).f3.f0), .int .i64 ((rd_T35 l1_19 x5_2).f3.f1), .int .i64 ((rd_T35 l1_19 x5_2).f3.f2), .bool ((rd_T35 l1_19 x5_2).f3.f3), .bool ((rd_T35 l1_19 x5_2).f3.f4), .string ((rd_T35 l1_19 x5_2).f4), .int .i64 ((rd_T35 l1_19 x5_2).f5), .slice A123_19 ((rd_T35 l1_19 x5_2).f6).length c123_19]] (by rfl) rfl rfl (by (try simp only [List.map_toArray, List.map_cons, List.map_nil]); first | done | rfl | (simp only [List.length_drop, List.length_take]; rfl)) ?_
                    with_reducible refine (ih k2 (by have := HJ2.out; have := HK2.out; omega) ((rd_T35 l0_19 x5_2).f0) ((rd_T35 l0_19 x5_2).f1.f0) ((rd_T35 l0_19 x5_2).f1.f1.f0) ((rd_T35 l0_19 x5_2).f1.f1.f1) ((rd_T35 l0_19 x5_2).f1.f2) ((rd_T35 l0_19 x5_2).f1.f3) ((rd_T35 l0_19 x5_2).f1.f4) ((rd_T35 l0_19 x5_2).f2.f0) ((rd_T35 l0_19 x5_2).f2.f1) ((rd_T35 l0_19 x5_2).f2.f2) ((rd_T35 l0_19 x5_2).f2.f3) ((rd_T35 l0_19 x5_2).f2.f4) ((rd_T35 l0_19 x5_2).f3.f0) ((rd_T35 l0_19 x5_2).f3.f1) ((rd_T35 l0_19 x5_2).f3.f2) ((rd_T35 l0_19 x5_2).f3.f3) ((rd_T35 l0_19 x5_2).f3.f4) ((rd_T35 l0_19 x5_2).f4) ((rd_T35 l0_19 x5_2).f5) _ _ ((rd_T35 l0_19 x5_2).f6) ((rd_T35 l1_19 x5_2).f0) ((rd_T35 l1_19 x5_2).f1.f0) ((rd_T35 l1_19 x5_2).f1.f1.f0) ((rd_T35 l1_19 x5_2).f1.f1.f1) ((rd_T35 l1_19 x5_2).f1.f2) ((rd_T35 l1_19 x5_2).f1.f3) ((rd_T35 l1_19 x5_2).f1.f4) ((rd_T35 l1_19 x5_2).f2.f0) ((rd_T35 l1_19 x5_2).f2.f1) ((rd_T35 l1_19 x5_2).f2.f2) ((rd_T35 l1_19 x5_2).f2.f3) ((rd_T35 l1_19 x5_2).f2.f4) ((rd_T35 l1_19 x5_2).f3.f0) ((rd_T35 l1_19 x5_2).f3.f1) ((rd_T35 l1_19 x5_2).f3.f2) ((rd_T35 l1_19 x5_2).f3.f3) ((rd_T35 l1_19 x5_2).f3.f4) ((rd_T35 l1_19 x5_2).f4) ((rd_T35 l1_19 x5_2).f5) _ _ ((rd_T35 l1_19 x5_2).f6) false _ ?side1 ?side2 ?side3 ?side4 A37.out).mono ?_
                    (case side1 => repeat (first | exact (Kd.C_below HR122_19.out HB.out) | (with_reducible refine Kd.C_alloc ?_ _) | (with_reducible refine Kd.C_drewN ?_ _) | (with_reducible refine Kd.C_drew ?_)))
                    (case side2 => exact HC122_19.out)
                    (case side3 => repeat (first | exact (Kd.C_below HR123_19.out HB.out) | (with_reducible refine Kd.C_alloc ?_ _) | (with_reducible refine Kd.C_drewN ?_ _) | (with_reducible refine Kd.C_drew ?_)))
                    (case side4 => exact HC123_19.out)
                    rintro e w46 ⟨rfl, hb⟩
                    refine ⟨_, rfl, ?_⟩
                    have n0_ := Aside0.mk (blk_below (g := gb120) (o := .cells #[.int .i64 a0_0, .int .i64 a0_1, .int .i64 a0_2, .int .i64 a0_3, .string a0_4, .bool a0_5, .int .i64 a0_6, .string a0_7, .int .i64 a0_8, .int .i64 a0_9, .bool a0_10, .bool a0_11, .string a0_12, .int .i64 a0_13, .int .i64 a0_14, .bool a0_15, .bool a0_16, .string a0_17, .int .i64 a0_18, .slice (some ad122) l0_19.length c0_19] 35 (0, 0)) (by (with_reducible repeat (first | refine blk_drewN ?_ _ | refine blk_drew ?_ | refine blk_alloc ?_ _)); exact BK120.out) hb)
                    have n1_ := Aside0.mk (blk_below (g := gb121) (o := .cells #[.int .i64 a1_0, .int .i64 a1_1, .int .i64 a1_2, .int .i64 a1_3, .string a1_4, .bool a1_5, .int .i64 a1_6, .string a1_7, .int .i64 a1_8, .int .i64 a1_9, .bool a1_10, .bool a1_11, .string a1_12, .int .i64 a1_13, .int .i64 a1_14, .bool a1_15, .bool a1_16, .string a1_17, .int .i64 a1_18, .slice (some ad123) l1_19.length c1_19] 35 (0, 0)) (by (with_reducible repeat (first | refine blk_drewN ?_ _ | refine blk_drew ?_ | refine blk_alloc ?_ _)); exact BK121.out) hb)
                    have n2_ := Aside0.mk (below_step (by repeat (first | (with_reducible first | exact HB.out | apply below_alloc | apply pw_below_drewN | apply below_drew1 | refine below_set ?_ GE120.out | refine below_set ?_ GE121.out) | exact HB.out)) hb)
                    clear BK120
                    clear BK121
                    clear HB
                    have BK120 := n0_
                    have BK121 := n1_
                    have HB := n2_
                    clear n0_ n1_ n2_
                    (try clear hb)
                    (try clear hb2)
                    (try clear hk)
                    (try clear hi)
                    refine hK.out _ _ ⟨(blk_cell BK120.out 0).trans rfl, (blk_cell BK120.out 1).trans rfl, (blk_cell BK120.out 2).trans rfl, (blk_cell BK120.out 3).trans rfl, (blk_cell BK120.out 4).trans rfl, (blk_cell BK120.out 5).trans rfl, (blk_cell BK120.out 6).trans rfl, (blk_cell BK120.out 7).trans rfl, (blk_cell BK120.out 8).trans rfl, (blk_cell BK120.out 9).trans rfl, (blk_cell BK120.out 10).trans rfl, (blk_cell BK120.out 11).trans rfl, (blk_cell BK120.out 12).trans rfl, (blk_cell BK120.out 13).trans rfl, (blk_cell BK120.out 14).trans rfl, (blk_cell BK120.out 15).trans rfl, (blk_cell BK120.out 16).trans rfl, (blk_cell BK120.out 17).trans rfl, (blk_cell BK120.out 18).trans rfl, (blk_cell BK120.out 19).trans rfl, (blk_cell BK121.out 0).trans rfl, (blk_cell BK121.out 1).trans rfl, (blk_cell BK121.out 2).trans rfl, (blk_cell BK121.out 3).trans rfl, (blk_cell BK121.out 4).trans rfl, (blk_cell BK121.out 5).trans rfl, (blk_cell BK121.out 6).trans rfl, (blk_cell BK121.out 7).trans rfl, (blk_cell BK121.out 8).trans rfl, (blk_cell BK121.out 9).trans rfl, (blk_cell BK121.out 10).trans rfl, (blk_cell BK121.out 11).trans rfl, (blk_cell BK121.out 12).trans rfl, (blk_cell BK121.out 13).trans rfl, (blk_cell BK121.out 14).trans rfl, (blk_cell BK121.out 15).trans rfl, (blk_cell BK121.out 16).trans rfl, (blk_cell BK121.out 17).trans rfl, (blk_cell BK121.out 18).trans rfl, (blk_cell BK121.out 19).trans rfl, ((HB.out.cell (World.block_lt_of_cell? w _ hw122_0)).trans hw122_0), ((HB.out.cell (World.block_lt_of_cell? w _ hw122_1)).trans hw122_1), ((HB.out.cell (World.block_lt_of_cell? w _ hw122_2)).trans hw122_2), ((HB.out.cell (World.block_lt_of_cell? w _ hw122_3)).trans hw122_3), ((HB.out.cell (World.block_lt_of_cell? w _ hw122_4)).trans hw122_4), ((HB.out.cell (World.block_lt_of_cell? w _ hw122_5)).trans hw122_5), ((HB.out.cell (World.block_lt_of_cell? w _ hw122_6)).trans hw122_6), ((HB.out.cell (World.block_lt_of_cell? w _ hw122_7)).trans hw122_7), ((HB.out.cell (World.block_lt_of_cell? w _ hw122_8)).trans hw122_8), ((HB.out.cell (World.block_lt_of_cell? w _ hw122_9)).trans hw122_9), ((HB.out.cell (World.block_lt_of_cell? w _ hw122_10)).trans hw122_10), ((HB.out.cell (World.block_lt_of_cell? w _ hw122_11)).trans hw122_11), ((HB.out.cell (World.block_lt_of_cell? w _ hw122_12)).trans hw122_12), ((HB.out.cell (World.block_lt_of_cell? w _ hw122_13)).trans hw122_13), ((HB.out.cell (World.block_lt_of_cell? w _ hw122_14)).trans hw122_14), ((HB.out.cell (World.block_lt_of_cell? w _ hw122_15)).trans hw122_15), ((HB.out.cell (World.block_lt_of_cell? w _ hw122_16)).trans hw122_16), ((HB.out.cell (World.block_lt_of_cell? w _ hw122_17)).trans hw122_17), ((HB.out.cell (World.block_lt_of_cell? w _ hw122_18)).trans hw122_18), ((HB.out.cell (World.block_lt_of_cell? w _ hw122_19)).trans hw122_19), ((HB.out.cell (World.block_lt_of_cell? w _ hw123_0)).trans hw123_0), ((HB.out.cell (World.block_lt_of_cell? w _ hw123_1)).trans hw123_1), ((HB.out.cell (World.block_lt_of_cell? w _ hw123_2)).trans hw123_2), ((HB.out.cell (World.block_lt_of_cell? w _ hw123_3)).trans hw123_3), ((HB.out.cell (World.block_lt_of_cell? w _ hw123_4)).trans hw123_4), ((HB.out.cell (World.block_lt_of_cell? w _ hw123_5)).trans hw123_5), ((HB.out.cell (World.block_lt_of_cell? w _ hw123_6)).trans hw123_6), ((HB.out.cell (World.block_lt_of_cell? w _ hw123_7)).trans hw123_7), ((HB.out.cell (World.block_lt_of_cell? w _ hw123_8)).trans hw123_8), ((HB.out.cell (World.block_lt_of_cell? w _ hw123_9)).trans hw123_9), ((HB.out.cell (World.block_lt_of_cell? w _ hw123_10)).trans hw123_10), ((HB.out.cell (World.block_lt_of_cell? w _ hw123_11)).trans hw123_11), ((HB.out.cell (World.block_lt_of_cell? w _ hw123_12)).trans hw123_12), ((HB.out.cell (World.block_lt_of_cell? w _ hw123_13)).trans hw123_13), ((HB.out.cell (World.block_lt_of_cell? w _ hw123_14)).trans hw123_14), ((HB.out.cell (World.block_lt_of_cell? w _ hw123_15)).trans hw123_15), ((HB.out.cell (World.block_lt_of_cell? w _ hw123_16)).trans hw123_16), ((HB.out.cell (World.block_lt_of_cell? w _ hw123_17)).trans hw123_17), ((HB.out.cell (World.block_lt_of_cell? w _ hw123_18)).trans hw123_18), ((HB.out.cell (World.block_lt_of_cell? w _ hw123_19)).trans hw123_19)⟩ (fun hHeld => ?_)
                    clear hK K
                    refine norm_ (a' := ?_) ?_ ?_
                    rotate_left
                    · show Act.put _ (some 72) _ = _
                      simp only [Act.put, List.setIfInBounds_toArray, List.set_cons_zero, List.set_cons_succ, i64_w, i32_w]
                      rfl
                    refine pure_ (i := 11) (N := some 73) (v := ?_) (a' := ?_) #[true, true, true, true, true, true, true, true, true, true, true, true] rfl rfl (any_of HT_.out (by kernel_rfl)) (fun _ _ _ h => h) (Or.inl ⟨by rfl, ?_⟩) ?_ ?_
                    rotate_left
                    · intro w'
                      go_simp
                      with_reducible rfl
                    rotate_left
                    · simp only [Act.put, List.setIfInBounds_toArray, List.set_cons_zero, List.set_cons_succ, i64_w, i32_w]
                      rfl
                    refine done_ (done_of HT_.out (by kernel_rfl)) ?_
                    try go_wp2_with (first | ((with_reducible refine gate_load (t := 35) rfl ?_); (try (refine gate_guard (by first | rfl | (go_simp; done) | (go_simp; assumption)) ?_; dsimp only)); refine load_event20 rfl rfl (by first | rfl | (go_simp; done) | (go_simp; rfl)) Tryz.isAgg35 Tryz.sizeOf35 ?_))
                    go_ret
                    exact ⟨by first | rfl | (simp [errW_none, errW_some] <;> rfl) | (simp [*, errW_none, errW_some] <;> rfl), by repeat (first | (with_reducible first | exact HB.out | apply below_alloc | apply pw_below_drewN | apply below_drew1 | refine below_set ?_ GE120.out | refine below_set ?_ GE121.out) | exact HB.out)⟩
                · rw [if_neg c36] at H
                  exact absurd H (by simp)
              · rw [if_neg c35] at H
                exact absurd H (by simp)
            · rw [if_neg c34] at H
              have c34b0 : decide (x5_2 < (l0_19.length : Int)) = false := decide_eq_false c34
              clear c34
              obtain rfl := Option.some.inj H
              have hnb47 := NB120_121.out
              have hnc47 := NB121_120.out
              obtain ⟨hcz48_0, hcz48_1, hcz48_2, hcz48_3, hcz48_4, hcz48_5, hcz48_6, hcz48_7, hcz48_8, hcz48_9, hcz48_10, hcz48_11, hcz48_12, hcz48_13, hcz48_14, hcz48_15, hcz48_16, hcz48_17, hcz48_18, hcz48_19⟩ := blk20 BK120.out
              obtain ⟨hfz48_0, hfz48_1, hfz48_2, hfz48_3, hfz48_4, hfz48_5, hfz48_6, hfz48_7, hfz48_8, hfz48_9, hfz48_10, hfz48_11, hfz48_12, hfz48_13, hfz48_14, hfz48_15, hfz48_16, hfz48_17, hfz48_18, hfz48_19⟩ := frz20 BK120.out
              go_wp2_with (first | ((with_reducible refine gate_load (t := 35) rfl ?_); (try (refine gate_guard (by first | rfl | (go_simp; done) | (go_simp; assumption)) ?_; dsimp only)); refine load_event20 rfl rfl (by first | rfl | (go_simp; done) | (go_simp; rfl)) Tryz.isAgg35 Tryz.sizeOf35 ?_))
              go_ret
              exact ⟨by first | rfl | (simp [errW_none, errW_some] <;> rfl) | (simp [*, errW_none, errW_some] <;> rfl), by repeat (first | (with_reducible first | exact HB.out | apply below_alloc | apply pw_below_drewN | apply below_drew1 | refine below_set ?_ GE120.out | refine below_set ?_ GE121.out) | exact HB.out)⟩
end Go.Proofs.YtnafcjaddnkioaaGreatDoor.PLooks
end
