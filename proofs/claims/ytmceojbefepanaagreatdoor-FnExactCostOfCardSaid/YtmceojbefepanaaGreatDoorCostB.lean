/- Runs of the functions of the law 'Cost' at given numbers, by the closed interpreter. -/
import Derived.Test.YtmceojbefepanaaGreatDoorTab
set_option maxRecDepth 100000
namespace Go.Proofs.YtmceojbefepanaaGreatDoor
open Go Go.DW Go.CR
theorem specCost_1_1 : flatRes (runFF cZ 1000 16 [.d (.int .i64 1), .d (.int .i64 1)] []) = some (.tup [.d (.int .i64 2), .d (.int .i64 0), .d .tt]) := by kernel_rfl
theorem implCost_1_1 : flatRes (runFF cZ 1000 17 [.d (.int .i64 1), .d (.int .i64 1)] []) = some (.tup [.d (.int .i64 2), .d (.int .i64 0), .d .tt]) := by kernel_rfl
theorem lawCost_1_1 : okZ (stepR cZ (tabRun (tab2 16 17 1 1 (.tup [.d (.int .i64 2), .d (.int .i64 0), .d .tt]) (.tup [.d (.int .i64 2), .d (.int .i64 0), .d .tt]))) 1000 5 [.d (.int .i64 1), .d (.int .i64 1)] []) = true := by kernel_rfl
theorem specCost_1_2 : flatRes (runFF cZ 1000 16 [.d (.int .i64 1), .d (.int .i64 2)] []) = some (.tup [.d (.int .i64 5), .d (.int .i64 1), .d .tt]) := by kernel_rfl
theorem implCost_1_2 : flatRes (runFF cZ 1000 17 [.d (.int .i64 1), .d (.int .i64 2)] []) = some (.tup [.d (.int .i64 5), .d (.int .i64 1), .d .tt]) := by kernel_rfl
theorem lawCost_1_2 : okZ (stepR cZ (tabRun (tab2 16 17 1 2 (.tup [.d (.int .i64 5), .d (.int .i64 1), .d .tt]) (.tup [.d (.int .i64 5), .d (.int .i64 1), .d .tt]))) 1000 5 [.d (.int .i64 1), .d (.int .i64 2)] []) = true := by kernel_rfl
theorem specCost_1_3 : flatRes (runFF cZ 1000 16 [.d (.int .i64 1), .d (.int .i64 3)] []) = some (.tup [.d (.int .i64 8), .d (.int .i64 2), .d .tt]) := by kernel_rfl
theorem implCost_1_3 : flatRes (runFF cZ 1000 17 [.d (.int .i64 1), .d (.int .i64 3)] []) = some (.tup [.d (.int .i64 8), .d (.int .i64 2), .d .tt]) := by kernel_rfl
theorem lawCost_1_3 : okZ (stepR cZ (tabRun (tab2 16 17 1 3 (.tup [.d (.int .i64 8), .d (.int .i64 2), .d .tt]) (.tup [.d (.int .i64 8), .d (.int .i64 2), .d .tt]))) 1000 5 [.d (.int .i64 1), .d (.int .i64 3)] []) = true := by kernel_rfl
theorem specCost_1_4 : flatRes (runFF cZ 1000 16 [.d (.int .i64 1), .d (.int .i64 4)] []) = some (.tup [.d (.int .i64 11), .d (.int .i64 3), .d .tt]) := by kernel_rfl
theorem implCost_1_4 : flatRes (runFF cZ 1000 17 [.d (.int .i64 1), .d (.int .i64 4)] []) = some (.tup [.d (.int .i64 11), .d (.int .i64 3), .d .tt]) := by kernel_rfl
theorem lawCost_1_4 : okZ (stepR cZ (tabRun (tab2 16 17 1 4 (.tup [.d (.int .i64 11), .d (.int .i64 3), .d .tt]) (.tup [.d (.int .i64 11), .d (.int .i64 3), .d .tt]))) 1000 5 [.d (.int .i64 1), .d (.int .i64 4)] []) = true := by kernel_rfl
end Go.Proofs.YtmceojbefepanaaGreatDoor
