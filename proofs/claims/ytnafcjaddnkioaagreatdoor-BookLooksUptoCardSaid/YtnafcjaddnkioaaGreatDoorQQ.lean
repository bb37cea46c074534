/- The closed facts of BookLooks' row, each by the kernel. -/
import Derived.Test.YtnafcjaddnkioaaGreatDoorCards
import Derived.Test.YtnafcjaddnkioaaGreatDoorTie
import Derived.JoinedCond
import Derived.SevenTiedAt
import Derived.KernelRfl
section
set_option linter.unusedVariables false
set_option linter.unusedSimpArgs false
namespace Go.Proofs.YtnafcjaddnkioaaGreatDoor.looksFacts
open Go
set_option maxRecDepth 100000
theorem k1 : (Rows.bookLooksUptoRow.wf (OpenSpec.ofChange (Rows.OpenSpec.upto Rows.bookLooksSpec).bare)) = true := by kernel_rfl
theorem k2 : (laidOutB Tryz.prog) = true := by kernel_rfl
theorem k3 : (mapsRowed Tryz.prog) = true := by kernel_rfl
theorem k4 : (Tryz.f7.params.all (Tryz.prog.readableRec ·)) = true := by kernel_rfl
theorem k5 : (namedTie Tryz.prog Rows.bookLooksUptoRow.named (Rows.OpenSpec.upto Rows.bookLooksSpec).bare.vars) = true := by kernel_rfl
theorem k6 : ((Rows.bookLooksUptoRow.stops == [])) = true := by kernel_rfl
theorem k7 : ((Tryz.prog.stops == [])) = true := by kernel_rfl
theorem k8 : ((Rows.bookLooksUptoRow.knobs == [])) = true := by kernel_rfl
theorem k9 : ((Tryz.prog.stopKnobs == [])) = true := by kernel_rfl
theorem k10 : ((Rows.bookLooksUptoRow.inPlace == Tryz.prog.inPlace 7)) = true := by kernel_rfl
theorem k11 : ((Rows.bookLooksUptoRow.unfollowed == Tryz.prog.unfollowed 7)) = true := by kernel_rfl
theorem k12 : ((Rows.bookLooksUptoRow.recurses == Tryz.prog.recurses 7)) = true := by kernel_rfl
theorem k13 : ((Rows.bookLooksUptoRow.named == Tryz.prog.varsNamed 7)) = true := by kernel_rfl
theorem k14 : ((Rows.bookLooksUptoRow.maps == (Tryz.f7.params.toList ++ (Rows.OpenSpec.upto Rows.bookLooksSpec).bare.plain.varTypes Tryz.prog).any (Tryz.prog.mapsRec ·))) = true := by kernel_rfl
theorem k15 : ((Rows.bookLooksUptoRow.ifaces == (Tryz.f7.params.toList ++ (Rows.OpenSpec.upto Rows.bookLooksSpec).bare.plain.varTypes Tryz.prog).any (Tryz.prog.ifacesRec ·))) = true := by kernel_rfl
theorem k16 : ((Rows.bookLooksUptoRow.mapsOut == Tryz.prog.mapsAmong Tryz.f7.resultTypes.toList)) = true := by kernel_rfl
theorem k17 : ((Rows.bookLooksUptoRow.loops == (Tryz.f7.params.toList ++ (Rows.OpenSpec.upto Rows.bookLooksSpec).bare.plain.varTypes Tryz.prog).any (Tryz.prog.loopsFrom ·))) = true := by kernel_rfl
theorem k18 : ((Rows.bookLooksUptoRow.wideKeys == (Tryz.f7.params.toList ++ (Rows.OpenSpec.upto Rows.bookLooksSpec).bare.plain.varTypes Tryz.prog ++ Tryz.f7.resultTypes.toList).any (Tryz.prog.wideKeysFrom ·))) = true := by kernel_rfl
theorem k19 : ((Rows.OpenSpec.upto Rows.bookLooksSpec).bare.vars.all (Tryz.prog.varReadable ·)) = true := by kernel_rfl
theorem k20 : (Tryz.f7.resultTypes.all (fun t => Tryz.prog.readableRec t && decide (t < Tryz.prog.types.size))) = true := by kernel_rfl
theorem k21 : ((Rows.bookLooksUptoRow.ifacesOut == Tryz.f7.resultTypes.toList.any (Tryz.prog.ifacesRec ·))) = true := by kernel_rfl
theorem k22 : ((Rows.bookLooksUptoRow.loopsOut == Tryz.f7.resultTypes.toList.any (Tryz.prog.loopsFrom ·))) = true := by kernel_rfl
theorem k23 : ((Rows.bookLooksUptoRow.plainKeys == Tryz.prog.plainKeys)) = true := by kernel_rfl
theorem k24 : (Rows.bookLooksUptoRow.shortTexts.isNone) = true := by kernel_rfl
theorem k25 : (Tryz.prog.stopsHeard) = true := by kernel_rfl
theorem k26 : (Tryz.prog.mayEnter) = true := by kernel_rfl
theorem k27 : ((Rows.bookLooksUptoRow.lifted == Tryz.prog.liftsFinal)) = true := by kernel_rfl
theorem k28 : ((Tryz.prog.make == some Rows.bookLooksUptoRow.make)) = true := by kernel_rfl
theorem k29 : ((Rows.bookLooksUptoRow.kinds == (if Rows.bookLooksUptoRow.domain.isEmpty then [] else Tryz.f7.params.toList.map fun t => match Tryz.prog.underlying t with | some (.int k) => some k | _ => none))) = true := by kernel_rfl
theorem k30 : ((Rows.bookLooksUptoRow.pinned == Rows.bookLooksUptoRow.pinnedBy)) = true := by kernel_rfl
theorem k31 : ((Rows.bookLooksUptoRow.veiled == (Tryz.f7.params.toList ++ (Rows.OpenSpec.upto Rows.bookLooksSpec).bare.plain.varTypes Tryz.prog ++ Tryz.f7.resultTypes.toList).any (Tryz.prog.veiledRec ·))) = true := by kernel_rfl
theorem k32 : (Rows.bookLooksUptoRow.veiledFits Tryz.prog Tryz.f7.params.toList (Tryz.f7.params.toList ++ (Rows.OpenSpec.upto Rows.bookLooksSpec).bare.plain.varTypes Tryz.prog ++ Tryz.f7.resultTypes.toList)) = true := by kernel_rfl
theorem and_i {a b : Bool} (h : a = true) (k : b = true) : (a && b) = true := by rw [h, k]; rfl
theorem closed : joinedFacts Tryz.prog 7 Tryz.f7 (Rows.OpenSpec.upto Rows.bookLooksSpec).bare Rows.bookLooksUptoRow = true := (and_i (and_i (and_i (and_i (and_i (and_i (and_i (and_i (and_i (and_i (and_i (and_i (and_i (and_i (and_i (and_i (and_i (and_i (and_i (and_i (and_i (and_i (and_i (and_i (and_i (and_i (and_i (and_i (and_i (and_i (and_i k1 k2) k3) k4) k5) k6) k7) k8) k9) k10) k11) k12) k13) k14) k15) k16) k17) k18) k19) k20) k21) k22) k23) k24) k25) k26) k27) k28) k29) k30) k31) k32)
end Go.Proofs.YtnafcjaddnkioaaGreatDoor.looksFacts
end
