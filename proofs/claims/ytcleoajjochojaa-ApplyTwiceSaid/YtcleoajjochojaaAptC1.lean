/- The statement ApplyTwice, case by case: part 1. No condition. -/
import Derived.Test.YtcleoajjochojaaAptE
set_option linter.unusedVariables false
set_option linter.unusedSimpArgs false
set_option maxRecDepth 100000
set_option maxHeartbeats 4000000
namespace Go.Es.Apt
open Go.Proofs
theorem c_0_0_false (v0 : Int) (v1 : Int)  : run (prog tab1 X1 100) 100 (G2 0 0) [.d (.int .i64 v0), .d (.int .i64 v1), .d (.bool false)] = some (.d (.bool true), [.d (.int .i64 v0), .d (.int .i64 v1), .d (.bool false)]) := by kernel_rfl
theorem c_0_1_false (v0 : Int) (v1 : Int)  : run (prog tab1 X1 100) 100 (G2 0 1) [.d (.int .i64 v0), .d (.int .i64 v1), .d (.bool false)] = some (.d (.bool true), [.d (.int .i64 v0), .d (.int .i64 v1), .d (.bool false)]) := by kernel_rfl
theorem c_0_2_false (v0 : Int) (v1 : Int)  : run (prog tab1 X1 100) 100 (G2 0 2) [.d (.int .i64 v0), .d (.int .i64 v1), .d (.bool false)] = some (.d (.bool true), [.d (.int .i64 v0), .d (.int .i64 v1), .d (.bool false)]) := by kernel_rfl
theorem c_0_3_false (v0 : Int) (v1 : Int)  : run (prog tab1 X1 100) 100 (G2 0 3) [.d (.int .i64 v0), .d (.int .i64 v1), .d (.bool false)] = some (.d (.bool true), [.d (.int .i64 v0), .d (.int .i64 v1), .d (.bool false)]) := by kernel_rfl
theorem c_1_0_false (v0 : Int) (v1 : Int)  : run (prog tab1 X1 100) 100 (G2 1 0) [.d (.int .i64 v0), .d (.int .i64 v1), .d (.bool false)] = some (.d (.bool true), [.d (.int .i64 v0), .d (.int .i64 v1), .d (.bool false)]) := by kernel_rfl
theorem c_1_1_false (v0 : Int) (v1 : Int)  : run (prog tab1 X1 100) 100 (G2 1 1) [.d (.int .i64 v0), .d (.int .i64 v1), .d (.bool false)] = some (.d (.bool true), [.d (.int .i64 v0), .d (.int .i64 v1), .d (.bool false)]) := by kernel_rfl
theorem c_1_2_false (v0 : Int) (v1 : Int)  : run (prog tab1 X1 100) 100 (G2 1 2) [.d (.int .i64 v0), .d (.int .i64 v1), .d (.bool false)] = some (.d (.bool true), [.d (.int .i64 v0), .d (.int .i64 v1), .d (.bool false)]) := by kernel_rfl
theorem c_1_3_false (v0 : Int) (v1 : Int)  : run (prog tab1 X1 100) 100 (G2 1 3) [.d (.int .i64 v0), .d (.int .i64 v1), .d (.bool false)] = some (.d (.bool true), [.d (.int .i64 v0), .d (.int .i64 v1), .d (.bool false)]) := by kernel_rfl
end Go.Es.Apt
