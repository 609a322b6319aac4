/- The law 'FnExactProgramFor' outside its range: true at every number. -/
import Derived.Test.YtmceojbefepanaaDoorTab
set_option maxRecDepth 100000
namespace Go.Proofs.YtmceojbefepanaaDoor
open Go Go.DW Go.CR
theorem outK1 (n : Nat) (b : Int) : okZ (runFF cZ 1000 3 [.d (.int .i64 (Int.negSucc n)), .d (.int .i64 b)] []) = true := by kernel_rfl
theorem outK2 (n : Nat) (b : Int) : okZ (runFF cZ 1000 3 [.d (.int .i64 (Int.ofNat (n + 12))), .d (.int .i64 b)] []) = true := by kernel_rfl
theorem outW1_0 (n : Nat) : okZ (runFF cZ 1000 3 [.d (.int .i64 0), .d (.int .i64 (Int.negSucc n))] []) = true := by kernel_rfl
theorem outW2_0 (n : Nat) : okZ (runFF cZ 1000 3 [.d (.int .i64 0), .d (.int .i64 (Int.ofNat (n + 5)))] []) = true := by kernel_rfl
theorem outW3_0 : okZ (runFF cZ 1000 3 [.d (.int .i64 0), .d (.int .i64 0)] []) = true := by kernel_rfl
theorem outW1_1 (n : Nat) : okZ (runFF cZ 1000 3 [.d (.int .i64 1), .d (.int .i64 (Int.negSucc n))] []) = true := by kernel_rfl
theorem outW2_1 (n : Nat) : okZ (runFF cZ 1000 3 [.d (.int .i64 1), .d (.int .i64 (Int.ofNat (n + 5)))] []) = true := by kernel_rfl
theorem outW3_1 : okZ (runFF cZ 1000 3 [.d (.int .i64 1), .d (.int .i64 0)] []) = true := by kernel_rfl
theorem outW1_2 (n : Nat) : okZ (runFF cZ 1000 3 [.d (.int .i64 2), .d (.int .i64 (Int.negSucc n))] []) = true := by kernel_rfl
theorem outW2_2 (n : Nat) : okZ (runFF cZ 1000 3 [.d (.int .i64 2), .d (.int .i64 (Int.ofNat (n + 5)))] []) = true := by kernel_rfl
theorem outW3_2 : okZ (runFF cZ 1000 3 [.d (.int .i64 2), .d (.int .i64 0)] []) = true := by kernel_rfl
theorem outW1_3 (n : Nat) : okZ (runFF cZ 1000 3 [.d (.int .i64 3), .d (.int .i64 (Int.negSucc n))] []) = true := by kernel_rfl
theorem outW2_3 (n : Nat) : okZ (runFF cZ 1000 3 [.d (.int .i64 3), .d (.int .i64 (Int.ofNat (n + 5)))] []) = true := by kernel_rfl
theorem outW3_3 : okZ (runFF cZ 1000 3 [.d (.int .i64 3), .d (.int .i64 0)] []) = true := by kernel_rfl
theorem outW1_4 (n : Nat) : okZ (runFF cZ 1000 3 [.d (.int .i64 4), .d (.int .i64 (Int.negSucc n))] []) = true := by kernel_rfl
theorem outW2_4 (n : Nat) : okZ (runFF cZ 1000 3 [.d (.int .i64 4), .d (.int .i64 (Int.ofNat (n + 5)))] []) = true := by kernel_rfl
theorem outW3_4 : okZ (runFF cZ 1000 3 [.d (.int .i64 4), .d (.int .i64 0)] []) = true := by kernel_rfl
theorem outW1_5 (n : Nat) : okZ (runFF cZ 1000 3 [.d (.int .i64 5), .d (.int .i64 (Int.negSucc n))] []) = true := by kernel_rfl
theorem outW2_5 (n : Nat) : okZ (runFF cZ 1000 3 [.d (.int .i64 5), .d (.int .i64 (Int.ofNat (n + 5)))] []) = true := by kernel_rfl
theorem outW3_5 : okZ (runFF cZ 1000 3 [.d (.int .i64 5), .d (.int .i64 0)] []) = true := by kernel_rfl
theorem outW1_6 (n : Nat) : okZ (runFF cZ 1000 3 [.d (.int .i64 6), .d (.int .i64 (Int.negSucc n))] []) = true := by kernel_rfl
theorem outW2_6 (n : Nat) : okZ (runFF cZ 1000 3 [.d (.int .i64 6), .d (.int .i64 (Int.ofNat (n + 5)))] []) = true := by kernel_rfl
theorem outW3_6 : okZ (runFF cZ 1000 3 [.d (.int .i64 6), .d (.int .i64 0)] []) = true := by kernel_rfl
theorem outW1_7 (n : Nat) : okZ (runFF cZ 1000 3 [.d (.int .i64 7), .d (.int .i64 (Int.negSucc n))] []) = true := by kernel_rfl
theorem outW2_7 (n : Nat) : okZ (runFF cZ 1000 3 [.d (.int .i64 7), .d (.int .i64 (Int.ofNat (n + 5)))] []) = true := by kernel_rfl
theorem outW3_7 : okZ (runFF cZ 1000 3 [.d (.int .i64 7), .d (.int .i64 0)] []) = true := by kernel_rfl
theorem outW1_8 (n : Nat) : okZ (runFF cZ 1000 3 [.d (.int .i64 8), .d (.int .i64 (Int.negSucc n))] []) = true := by kernel_rfl
theorem outW2_8 (n : Nat) : okZ (runFF cZ 1000 3 [.d (.int .i64 8), .d (.int .i64 (Int.ofNat (n + 5)))] []) = true := by kernel_rfl
theorem outW3_8 : okZ (runFF cZ 1000 3 [.d (.int .i64 8), .d (.int .i64 0)] []) = true := by kernel_rfl
theorem outW1_9 (n : Nat) : okZ (runFF cZ 1000 3 [.d (.int .i64 9), .d (.int .i64 (Int.negSucc n))] []) = true := by kernel_rfl
theorem outW2_9 (n : Nat) : okZ (runFF cZ 1000 3 [.d (.int .i64 9), .d (.int .i64 (Int.ofNat (n + 5)))] []) = true := by kernel_rfl
theorem outW3_9 : okZ (runFF cZ 1000 3 [.d (.int .i64 9), .d (.int .i64 0)] []) = true := by kernel_rfl
theorem outW1_10 (n : Nat) : okZ (runFF cZ 1000 3 [.d (.int .i64 10), .d (.int .i64 (Int.negSucc n))] []) = true := by kernel_rfl
theorem outW2_10 (n : Nat) : okZ (runFF cZ 1000 3 [.d (.int .i64 10), .d (.int .i64 (Int.ofNat (n + 5)))] []) = true := by kernel_rfl
theorem outW3_10 : okZ (runFF cZ 1000 3 [.d (.int .i64 10), .d (.int .i64 0)] []) = true := by kernel_rfl
theorem outW1_11 (n : Nat) : okZ (runFF cZ 1000 3 [.d (.int .i64 11), .d (.int .i64 (Int.negSucc n))] []) = true := by kernel_rfl
theorem outW2_11 (n : Nat) : okZ (runFF cZ 1000 3 [.d (.int .i64 11), .d (.int .i64 (Int.ofNat (n + 5)))] []) = true := by kernel_rfl
theorem outW3_11 : okZ (runFF cZ 1000 3 [.d (.int .i64 11), .d (.int .i64 0)] []) = true := by kernel_rfl
end Go.Proofs.YtmceojbefepanaaDoor
