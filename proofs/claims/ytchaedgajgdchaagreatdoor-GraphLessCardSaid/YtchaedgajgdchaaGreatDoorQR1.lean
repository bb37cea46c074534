/- One of the calls of alive(), run by the evaluator. -/
import Derived.Test.YtchaedgajgdchaaGreatDoorQM
import Derived.KernelRfl
section
set_option linter.unusedVariables false
set_option linter.unusedSimpArgs false
namespace Go.Proofs
open Go.Qe
theorem Tryz.run_m1 : memoRun Tryz.me1 60 29 Tryz.m1 = true := by kernel_rfl
end Go.Proofs
end
