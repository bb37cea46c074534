/- One of the calls of alive(), run by the evaluator. -/
import Derived.Test.YtchaedgajgdchaaGreatDoorQM
import Derived.KernelRfl
section
set_option linter.unusedVariables false
set_option linter.unusedSimpArgs false
namespace Go.Proofs
open Go.Qe
theorem Tryz.run_m2 : memoRun Tryz.me2 60 28 Tryz.m2 = true := by kernel_rfl
end Go.Proofs
end
