/- Runs of the functions of the law 'Cost' at given numbers, by the closed interpreter. -/
import Derived.Test.YtmceojbefepanaaGreatDoorTab
set_option maxRecDepth 100000
namespace Go.Proofs.YtmceojbefepanaaGreatDoor
open Go Go.DW Go.CR
theorem specCost_8_1 : flatRes (runFF cZ 1000 16 [.d (.int .i64 8), .d (.int .i64 1)] []) = some (.tup [.d (.int .i64 9), .d (.int .i64 5), .d .tt]) := by kernel_rfl
theorem implCost_8_1 : flatRes (runFF cZ 1000 17 [.d (.int .i64 8), .d (.int .i64 1)] []) = some (.tup [.d (.int .i64 9), .d (.int .i64 5), .d .tt]) := by kernel_rfl
theorem lawCost_8_1 : okZ (stepR cZ (tabRun (tab2 16 17 8 1 (.tup [.d (.int .i64 9), .d (.int .i64 5), .d .tt]) (.tup [.d (.int .i64 9), .d (.int .i64 5), .d .tt]))) 1000 5 [.d (.int .i64 8), .d (.int .i64 1)] []) = true := by kernel_rfl
theorem specCost_8_2 : flatRes (runFF cZ 1000 16 [.d (.int .i64 8), .d (.int .i64 2)] []) = some (.tup [.d (.int .i64 9), .d (.int .i64 5), .d .tt]) := by kernel_rfl
theorem implCost_8_2 : flatRes (runFF cZ 1000 17 [.d (.int .i64 8), .d (.int .i64 2)] []) = some (.tup [.d (.int .i64 9), .d (.int .i64 5), .d .tt]) := by kernel_rfl
theorem lawCost_8_2 : okZ (stepR cZ (tabRun (tab2 16 17 8 2 (.tup [.d (.int .i64 9), .d (.int .i64 5), .d .tt]) (.tup [.d (.int .i64 9), .d (.int .i64 5), .d .tt]))) 1000 5 [.d (.int .i64 8), .d (.int .i64 2)] []) = true := by kernel_rfl
theorem specCost_8_3 : flatRes (runFF cZ 1000 16 [.d (.int .i64 8), .d (.int .i64 3)] []) = some (.tup [.d (.int .i64 9), .d (.int .i64 5), .d .tt]) := by kernel_rfl
theorem implCost_8_3 : flatRes (runFF cZ 1000 17 [.d (.int .i64 8), .d (.int .i64 3)] []) = some (.tup [.d (.int .i64 9), .d (.int .i64 5), .d .tt]) := by kernel_rfl
theorem lawCost_8_3 : okZ (stepR cZ (tabRun (tab2 16 17 8 3 (.tup [.d (.int .i64 9), .d (.int .i64 5), .d .tt]) (.tup [.d (.int .i64 9), .d (.int .i64 5), .d .tt]))) 1000 5 [.d (.int .i64 8), .d (.int .i64 3)] []) = true := by kernel_rfl
theorem specCost_8_4 : flatRes (runFF cZ 1000 16 [.d (.int .i64 8), .d (.int .i64 4)] []) = some (.tup [.d (.int .i64 9), .d (.int .i64 5), .d .tt]) := by kernel_rfl
theorem implCost_8_4 : flatRes (runFF cZ 1000 17 [.d (.int .i64 8), .d (.int .i64 4)] []) = some (.tup [.d (.int .i64 9), .d (.int .i64 5), .d .tt]) := by kernel_rfl
theorem lawCost_8_4 : okZ (stepR cZ (tabRun (tab2 16 17 8 4 (.tup [.d (.int .i64 9), .d (.int .i64 5), .d .tt]) (.tup [.d (.int .i64 9), .d (.int .i64 5), .d .tt]))) 1000 5 [.d (.int .i64 8), .d (.int .i64 4)] []) = true := by kernel_rfl
end Go.Proofs.YtmceojbefepanaaGreatDoor
