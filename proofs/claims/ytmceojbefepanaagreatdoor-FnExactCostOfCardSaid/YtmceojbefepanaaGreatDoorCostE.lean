/- Runs of the functions of the law 'Cost' at given numbers, by the closed interpreter. -/
import Derived.Test.YtmceojbefepanaaGreatDoorTab
set_option maxRecDepth 100000
namespace Go.Proofs.YtmceojbefepanaaGreatDoor
open Go Go.DW Go.CR
theorem specCost_4_1 : flatRes (runFF cZ 1000 16 [.d (.int .i64 4), .d (.int .i64 1)] []) = some (.tup [.d (.int .i64 12), .d (.int .i64 4), .d .tt]) := by kernel_rfl
theorem implCost_4_1 : flatRes (runFF cZ 1000 17 [.d (.int .i64 4), .d (.int .i64 1)] []) = some (.tup [.d (.int .i64 12), .d (.int .i64 4), .d .tt]) := by kernel_rfl
theorem lawCost_4_1 : okZ (stepR cZ (tabRun (tab2 16 17 4 1 (.tup [.d (.int .i64 12), .d (.int .i64 4), .d .tt]) (.tup [.d (.int .i64 12), .d (.int .i64 4), .d .tt]))) 1000 5 [.d (.int .i64 4), .d (.int .i64 1)] []) = true := by kernel_rfl
theorem specCost_4_2 : flatRes (runFF cZ 1000 16 [.d (.int .i64 4), .d (.int .i64 2)] []) = some (.tup [.d (.int .i64 33), .d (.int .i64 8), .d .tt]) := by kernel_rfl
theorem implCost_4_2 : flatRes (runFF cZ 1000 17 [.d (.int .i64 4), .d (.int .i64 2)] []) = some (.tup [.d (.int .i64 33), .d (.int .i64 8), .d .tt]) := by kernel_rfl
theorem lawCost_4_2 : okZ (stepR cZ (tabRun (tab2 16 17 4 2 (.tup [.d (.int .i64 33), .d (.int .i64 8), .d .tt]) (.tup [.d (.int .i64 33), .d (.int .i64 8), .d .tt]))) 1000 5 [.d (.int .i64 4), .d (.int .i64 2)] []) = true := by kernel_rfl
theorem specCost_4_3 : flatRes (runFF cZ 1000 16 [.d (.int .i64 4), .d (.int .i64 3)] []) = some (.tup [.d (.int .i64 54), .d (.int .i64 12), .d .tt]) := by kernel_rfl
theorem implCost_4_3 : flatRes (runFF cZ 1000 17 [.d (.int .i64 4), .d (.int .i64 3)] []) = some (.tup [.d (.int .i64 54), .d (.int .i64 12), .d .tt]) := by kernel_rfl
theorem lawCost_4_3 : okZ (stepR cZ (tabRun (tab2 16 17 4 3 (.tup [.d (.int .i64 54), .d (.int .i64 12), .d .tt]) (.tup [.d (.int .i64 54), .d (.int .i64 12), .d .tt]))) 1000 5 [.d (.int .i64 4), .d (.int .i64 3)] []) = true := by kernel_rfl
theorem specCost_4_4 : flatRes (runFF cZ 1000 16 [.d (.int .i64 4), .d (.int .i64 4)] []) = some (.tup [.d (.int .i64 75), .d (.int .i64 16), .d .tt]) := by kernel_rfl
theorem implCost_4_4 : flatRes (runFF cZ 1000 17 [.d (.int .i64 4), .d (.int .i64 4)] []) = some (.tup [.d (.int .i64 75), .d (.int .i64 16), .d .tt]) := by kernel_rfl
theorem lawCost_4_4 : okZ (stepR cZ (tabRun (tab2 16 17 4 4 (.tup [.d (.int .i64 75), .d (.int .i64 16), .d .tt]) (.tup [.d (.int .i64 75), .d (.int .i64 16), .d .tt]))) 1000 5 [.d (.int .i64 4), .d (.int .i64 4)] []) = true := by kernel_rfl
end Go.Proofs.YtmceojbefepanaaGreatDoor
