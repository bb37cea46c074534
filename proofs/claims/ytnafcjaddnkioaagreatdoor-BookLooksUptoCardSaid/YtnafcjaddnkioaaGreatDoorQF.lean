/- The evaluator's run of alive() returns true. -/
import Derived.Test.YtnafcjaddnkioaaGreatDoorQE
import Derived.KernelRfl
section
set_option linter.unusedVariables false
set_option linter.unusedSimpArgs false
namespace Go.Proofs
open Go.Qe
theorem alive_ok : isRet (callD Tryz.qenv 60 (.fn 12 []) 1000 .e) = true := by kernel_rfl
end Go.Proofs
end
