/- Runs of the functions of the law 'Cost' at given numbers, by the closed interpreter. -/
import Derived.Test.YtmceojbefepanaaGreatDoorTab
set_option maxRecDepth 100000
namespace Go.Proofs.YtmceojbefepanaaGreatDoor
open Go Go.DW Go.CR
theorem specCost_9_1 : flatRes (runFF cZ 1000 16 [.d (.int .i64 9), .d (.int .i64 1)] []) = some (.tup [.d (.int .i64 3), .d (.int .i64 1), .d .tt]) := by kernel_rfl
theorem implCost_9_1 : flatRes (runFF cZ 1000 17 [.d (.int .i64 9), .d (.int .i64 1)] []) = some (.tup [.d (.int .i64 3), .d (.int .i64 1), .d .tt]) := by kernel_rfl
theorem lawCost_9_1 : okZ (stepR cZ (tabRun (tab2 16 17 9 1 (.tup [.d (.int .i64 3), .d (.int .i64 1), .d .tt]) (.tup [.d (.int .i64 3), .d (.int .i64 1), .d .tt]))) 1000 5 [.d (.int .i64 9), .d (.int .i64 1)] []) = true := by kernel_rfl
theorem specCost_9_2 : flatRes (runFF cZ 1000 16 [.d (.int .i64 9), .d (.int .i64 2)] []) = some (.tup [.d (.int .i64 13), .d (.int .i64 6), .d .tt]) := by kernel_rfl
theorem implCost_9_2 : flatRes (runFF cZ 1000 17 [.d (.int .i64 9), .d (.int .i64 2)] []) = some (.tup [.d (.int .i64 13), .d (.int .i64 6), .d .tt]) := by kernel_rfl
theorem lawCost_9_2 : okZ (stepR cZ (tabRun (tab2 16 17 9 2 (.tup [.d (.int .i64 13), .d (.int .i64 6), .d .tt]) (.tup [.d (.int .i64 13), .d (.int .i64 6), .d .tt]))) 1000 5 [.d (.int .i64 9), .d (.int .i64 2)] []) = true := by kernel_rfl
theorem specCost_9_3 : flatRes (runFF cZ 1000 16 [.d (.int .i64 9), .d (.int .i64 3)] []) = some (.tup [.d (.int .i64 35), .d (.int .i64 15), .d .tt]) := by kernel_rfl
theorem implCost_9_3 : flatRes (runFF cZ 1000 17 [.d (.int .i64 9), .d (.int .i64 3)] []) = some (.tup [.d (.int .i64 35), .d (.int .i64 15), .d .tt]) := by kernel_rfl
theorem lawCost_9_3 : okZ (stepR cZ (tabRun (tab2 16 17 9 3 (.tup [.d (.int .i64 35), .d (.int .i64 15), .d .tt]) (.tup [.d (.int .i64 35), .d (.int .i64 15), .d .tt]))) 1000 5 [.d (.int .i64 9), .d (.int .i64 3)] []) = true := by kernel_rfl
theorem specCost_9_4 : flatRes (runFF cZ 1000 16 [.d (.int .i64 9), .d (.int .i64 4)] []) = some (.tup [.d (.int .i64 69), .d (.int .i64 28), .d .tt]) := by kernel_rfl
theorem implCost_9_4 : flatRes (runFF cZ 1000 17 [.d (.int .i64 9), .d (.int .i64 4)] []) = some (.tup [.d (.int .i64 69), .d (.int .i64 28), .d .tt]) := by kernel_rfl
theorem lawCost_9_4 : okZ (stepR cZ (tabRun (tab2 16 17 9 4 (.tup [.d (.int .i64 69), .d (.int .i64 28), .d .tt]) (.tup [.d (.int .i64 69), .d (.int .i64 28), .d .tt]))) 1000 5 [.d (.int .i64 9), .d (.int .i64 4)] []) = true := by kernel_rfl
end Go.Proofs.YtmceojbefepanaaGreatDoor
