/- The statement ApplyTwice, case by case: part 4. No condition. -/
import Derived.Test.YtcleoajjochojaaAptE
set_option linter.unusedVariables false
set_option linter.unusedSimpArgs false
set_option maxRecDepth 100000
set_option maxHeartbeats 4000000
namespace Go.Es.Apt
open Go.Proofs
theorem c_6_0_false (v0 : Int) (v1 : Int)  : run (prog tab1 X1 100) 100 (G2 6 0) [.d (.int .i64 v0), .d (.int .i64 v1), .d (.bool false)] = some (.d (.bool true), [.d (.int .i64 v0), .d (.int .i64 v1), .d (.bool false)]) := by kernel_rfl
theorem c_6_1_false (v0 : Int) (v1 : Int)  : run (prog tab1 X1 100) 100 (G2 6 1) [.d (.int .i64 v0), .d (.int .i64 v1), .d (.bool false)] = some (.d (.bool true), [.d (.int .i64 v0), .d (.int .i64 v1), .d (.bool false)]) := by kernel_rfl
theorem c_6_2_false (v0 : Int) (v1 : Int)  : run (prog tab1 X1 100) 100 (G2 6 2) [.d (.int .i64 v0), .d (.int .i64 v1), .d (.bool false)] = some (.d (.bool true), [.d (.int .i64 v0), .d (.int .i64 v1), .d (.bool false)]) := by kernel_rfl
theorem c_6_3_false (v0 : Int) (v1 : Int)  : run (prog tab1 X1 100) 100 (G2 6 3) [.d (.int .i64 v0), .d (.int .i64 v1), .d (.bool false)] = some (.d (.bool true), [.d (.int .i64 v0), .d (.int .i64 v1), .d (.bool false)]) := by kernel_rfl
theorem c_7_0_false (v0 : Int) (v1 : Int)  : run (prog tab1 X1 100) 100 (G2 7 0) [.d (.int .i64 v0), .d (.int .i64 v1), .d (.bool false)] = some (.d (.bool true), [.d (.int .i64 v0), .d (.int .i64 v1), .d (.bool false)]) := by kernel_rfl
theorem c_7_1_false (v0 : Int) (v1 : Int)  : run (prog tab1 X1 100) 100 (G2 7 1) [.d (.int .i64 v0), .d (.int .i64 v1), .d (.bool false)] = some (.d (.bool true), [.d (.int .i64 v0), .d (.int .i64 v1), .d (.bool false)]) := by kernel_rfl
theorem c_7_2_false (v0 : Int) (v1 : Int)  : run (prog tab1 X1 100) 100 (G2 7 2) [.d (.int .i64 v0), .d (.int .i64 v1), .d (.bool false)] = some (.d (.bool true), [.d (.int .i64 v0), .d (.int .i64 v1), .d (.bool false)]) := by kernel_rfl
theorem c_7_3_false (v0 : Int) (v1 : Int)  : run (prog tab1 X1 100) 100 (G2 7 3) [.d (.int .i64 v0), .d (.int .i64 v1), .d (.bool false)] = some (.d (.bool true), [.d (.int .i64 v0), .d (.int .i64 v1), .d (.bool false)]) := by kernel_rfl
end Go.Es.Apt
