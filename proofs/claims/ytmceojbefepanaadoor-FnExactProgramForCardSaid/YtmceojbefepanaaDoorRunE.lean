/- Runs of the law 'FnExactProgramFor' at given numbers, by the closed interpreter. -/
import Derived.Test.YtmceojbefepanaaDoorTab
set_option maxRecDepth 100000
namespace Go.Proofs.YtmceojbefepanaaDoor
open Go Go.DW Go.CR
theorem run_4_1 : okZ (runFF cZ 1000 3 [.d (.int .i64 4), .d (.int .i64 1)] []) = true := by kernel_rfl
theorem run_4_2 : okZ (runFF cZ 1000 3 [.d (.int .i64 4), .d (.int .i64 2)] []) = true := by kernel_rfl
theorem run_4_3 : okZ (runFF cZ 1000 3 [.d (.int .i64 4), .d (.int .i64 3)] []) = true := by kernel_rfl
theorem run_4_4 : okZ (runFF cZ 1000 3 [.d (.int .i64 4), .d (.int .i64 4)] []) = true := by kernel_rfl
end Go.Proofs.YtmceojbefepanaaDoor
