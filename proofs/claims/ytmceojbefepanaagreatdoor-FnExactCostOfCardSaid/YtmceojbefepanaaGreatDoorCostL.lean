/- Runs of the functions of the law 'Cost' at given numbers, by the closed interpreter. -/
import Derived.Test.YtmceojbefepanaaGreatDoorTab
set_option maxRecDepth 100000
namespace Go.Proofs.YtmceojbefepanaaGreatDoor
open Go Go.DW Go.CR
theorem specCost_11_1 : flatRes (runFF cZ 1000 16 [.d (.int .i64 11), .d (.int .i64 1)] []) = some (.tup [.d (.int .i64 9), .d (.int .i64 2), .d .tt]) := by kernel_rfl
theorem implCost_11_1 : flatRes (runFF cZ 1000 17 [.d (.int .i64 11), .d (.int .i64 1)] []) = some (.tup [.d (.int .i64 9), .d (.int .i64 2), .d .tt]) := by kernel_rfl
theorem lawCost_11_1 : okZ (stepR cZ (tabRun (tab2 16 17 11 1 (.tup [.d (.int .i64 9), .d (.int .i64 2), .d .tt]) (.tup [.d (.int .i64 9), .d (.int .i64 2), .d .tt]))) 1000 5 [.d (.int .i64 11), .d (.int .i64 1)] []) = true := by kernel_rfl
theorem specCost_11_2 : flatRes (runFF cZ 1000 16 [.d (.int .i64 11), .d (.int .i64 2)] []) = some (.tup [.d (.int .i64 17), .d (.int .i64 4), .d .tt]) := by kernel_rfl
theorem implCost_11_2 : flatRes (runFF cZ 1000 17 [.d (.int .i64 11), .d (.int .i64 2)] []) = some (.tup [.d (.int .i64 17), .d (.int .i64 4), .d .tt]) := by kernel_rfl
theorem lawCost_11_2 : okZ (stepR cZ (tabRun (tab2 16 17 11 2 (.tup [.d (.int .i64 17), .d (.int .i64 4), .d .tt]) (.tup [.d (.int .i64 17), .d (.int .i64 4), .d .tt]))) 1000 5 [.d (.int .i64 11), .d (.int .i64 2)] []) = true := by kernel_rfl
theorem specCost_11_3 : flatRes (runFF cZ 1000 16 [.d (.int .i64 11), .d (.int .i64 3)] []) = some (.tup [.d (.int .i64 25), .d (.int .i64 6), .d .tt]) := by kernel_rfl
theorem implCost_11_3 : flatRes (runFF cZ 1000 17 [.d (.int .i64 11), .d (.int .i64 3)] []) = some (.tup [.d (.int .i64 25), .d (.int .i64 6), .d .tt]) := by kernel_rfl
theorem lawCost_11_3 : okZ (stepR cZ (tabRun (tab2 16 17 11 3 (.tup [.d (.int .i64 25), .d (.int .i64 6), .d .tt]) (.tup [.d (.int .i64 25), .d (.int .i64 6), .d .tt]))) 1000 5 [.d (.int .i64 11), .d (.int .i64 3)] []) = true := by kernel_rfl
theorem specCost_11_4 : flatRes (runFF cZ 1000 16 [.d (.int .i64 11), .d (.int .i64 4)] []) = some (.tup [.d (.int .i64 33), .d (.int .i64 8), .d .tt]) := by kernel_rfl
theorem implCost_11_4 : flatRes (runFF cZ 1000 17 [.d (.int .i64 11), .d (.int .i64 4)] []) = some (.tup [.d (.int .i64 33), .d (.int .i64 8), .d .tt]) := by kernel_rfl
theorem lawCost_11_4 : okZ (stepR cZ (tabRun (tab2 16 17 11 4 (.tup [.d (.int .i64 33), .d (.int .i64 8), .d .tt]) (.tup [.d (.int .i64 33), .d (.int .i64 8), .d .tt]))) 1000 5 [.d (.int .i64 11), .d (.int .i64 4)] []) = true := by kernel_rfl
end Go.Proofs.YtmceojbefepanaaGreatDoor
