/- Runs of the functions of the law 'Cost' at given numbers, by the closed interpreter. -/
import Derived.Test.YtmceojbefepanaaGreatDoorTab
set_option maxRecDepth 100000
namespace Go.Proofs.YtmceojbefepanaaGreatDoor
open Go Go.DW Go.CR
theorem specCost_5_1 : flatRes (runFF cZ 1000 16 [.d (.int .i64 5), .d (.int .i64 1)] []) = some (.tup [.d (.int .i64 21), .d (.int .i64 7), .d .tt]) := by kernel_rfl
theorem implCost_5_1 : flatRes (runFF cZ 1000 17 [.d (.int .i64 5), .d (.int .i64 1)] []) = some (.tup [.d (.int .i64 21), .d (.int .i64 7), .d .tt]) := by kernel_rfl
theorem lawCost_5_1 : okZ (stepR cZ (tabRun (tab2 16 17 5 1 (.tup [.d (.int .i64 21), .d (.int .i64 7), .d .tt]) (.tup [.d (.int .i64 21), .d (.int .i64 7), .d .tt]))) 1000 5 [.d (.int .i64 5), .d (.int .i64 1)] []) = true := by kernel_rfl
theorem specCost_5_2 : flatRes (runFF cZ 1000 16 [.d (.int .i64 5), .d (.int .i64 2)] []) = some (.tup [.d (.int .i64 51), .d (.int .i64 14), .d .tt]) := by kernel_rfl
theorem implCost_5_2 : flatRes (runFF cZ 1000 17 [.d (.int .i64 5), .d (.int .i64 2)] []) = some (.tup [.d (.int .i64 51), .d (.int .i64 14), .d .tt]) := by kernel_rfl
theorem lawCost_5_2 : okZ (stepR cZ (tabRun (tab2 16 17 5 2 (.tup [.d (.int .i64 51), .d (.int .i64 14), .d .tt]) (.tup [.d (.int .i64 51), .d (.int .i64 14), .d .tt]))) 1000 5 [.d (.int .i64 5), .d (.int .i64 2)] []) = true := by kernel_rfl
theorem specCost_5_3 : flatRes (runFF cZ 1000 16 [.d (.int .i64 5), .d (.int .i64 3)] []) = some (.tup [.d (.int .i64 81), .d (.int .i64 21), .d .tt]) := by kernel_rfl
theorem implCost_5_3 : flatRes (runFF cZ 1000 17 [.d (.int .i64 5), .d (.int .i64 3)] []) = some (.tup [.d (.int .i64 81), .d (.int .i64 21), .d .tt]) := by kernel_rfl
theorem lawCost_5_3 : okZ (stepR cZ (tabRun (tab2 16 17 5 3 (.tup [.d (.int .i64 81), .d (.int .i64 21), .d .tt]) (.tup [.d (.int .i64 81), .d (.int .i64 21), .d .tt]))) 1000 5 [.d (.int .i64 5), .d (.int .i64 3)] []) = true := by kernel_rfl
theorem specCost_5_4 : flatRes (runFF cZ 1000 16 [.d (.int .i64 5), .d (.int .i64 4)] []) = some (.tup [.d (.int .i64 111), .d (.int .i64 28), .d .tt]) := by kernel_rfl
theorem implCost_5_4 : flatRes (runFF cZ 1000 17 [.d (.int .i64 5), .d (.int .i64 4)] []) = some (.tup [.d (.int .i64 111), .d (.int .i64 28), .d .tt]) := by kernel_rfl
theorem lawCost_5_4 : okZ (stepR cZ (tabRun (tab2 16 17 5 4 (.tup [.d (.int .i64 111), .d (.int .i64 28), .d .tt]) (.tup [.d (.int .i64 111), .d (.int .i64 28), .d .tt]))) 1000 5 [.d (.int .i64 5), .d (.int .i64 4)] []) = true := by kernel_rfl
end Go.Proofs.YtmceojbefepanaaGreatDoor
