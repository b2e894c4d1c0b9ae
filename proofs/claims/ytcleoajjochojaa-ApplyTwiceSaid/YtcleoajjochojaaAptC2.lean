/- The statement ApplyTwice, case by case: part 2. No condition. -/
import Derived.Test.YtcleoajjochojaaAptE
set_option linter.unusedVariables false
set_option linter.unusedSimpArgs false
set_option maxRecDepth 100000
set_option maxHeartbeats 4000000
namespace Go.Es.Apt
open Go.Proofs
theorem c_2_0_false (v0 : Int) (v1 : Int)  : run (prog tab1 X1 100) 100 (G2 2 0) [.d (.int .i64 v0), .d (.int .i64 v1), .d (.bool false)] = some (.d (.bool true), [.d (.int .i64 v0), .d (.int .i64 v1), .d (.bool false)]) := by kernel_rfl
theorem c_2_1_false (v0 : Int) (v1 : Int)  : run (prog tab1 X1 100) 100 (G2 2 1) [.d (.int .i64 v0), .d (.int .i64 v1), .d (.bool false)] = some (.d (.bool true), [.d (.int .i64 v0), .d (.int .i64 v1), .d (.bool false)]) := by kernel_rfl
theorem c_2_2_false (v0 : Int) (v1 : Int)  : run (prog tab1 X1 100) 100 (G2 2 2) [.d (.int .i64 v0), .d (.int .i64 v1), .d (.bool false)] = some (.d (.bool true), [.d (.int .i64 v0), .d (.int .i64 v1), .d (.bool false)]) := by kernel_rfl
theorem c_2_3_false (v0 : Int) (v1 : Int)  : run (prog tab1 X1 100) 100 (G2 2 3) [.d (.int .i64 v0), .d (.int .i64 v1), .d (.bool false)] = some (.d (.bool true), [.d (.int .i64 v0), .d (.int .i64 v1), .d (.bool false)]) := by kernel_rfl
theorem c_3_0_false (v0 : Int) (v1 : Int)  : run (prog tab1 X1 100) 100 (G2 3 0) [.d (.int .i64 v0), .d (.int .i64 v1), .d (.bool false)] = some (.d (.bool true), [.d (.int .i64 v0), .d (.int .i64 v1), .d (.bool false)]) := by kernel_rfl
theorem c_3_1_false (v0 : Int) (v1 : Int)  : run (prog tab1 X1 100) 100 (G2 3 1) [.d (.int .i64 v0), .d (.int .i64 v1), .d (.bool false)] = some (.d (.bool true), [.d (.int .i64 v0), .d (.int .i64 v1), .d (.bool false)]) := by kernel_rfl
theorem c_3_2_false (v0 : Int) (v1 : Int)  : run (prog tab1 X1 100) 100 (G2 3 2) [.d (.int .i64 v0), .d (.int .i64 v1), .d (.bool false)] = some (.d (.bool true), [.d (.int .i64 v0), .d (.int .i64 v1), .d (.bool false)]) := by kernel_rfl
theorem c_3_3_false (v0 : Int) (v1 : Int)  : run (prog tab1 X1 100) 100 (G2 3 3) [.d (.int .i64 v0), .d (.int .i64 v1), .d (.bool false)] = some (.d (.bool true), [.d (.int .i64 v0), .d (.int .i64 v1), .d (.bool false)]) := by kernel_rfl
end Go.Es.Apt
