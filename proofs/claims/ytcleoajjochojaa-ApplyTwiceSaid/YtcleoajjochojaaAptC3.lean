/- The statement ApplyTwice, case by case: part 3. No condition. -/
import Derived.Test.YtcleoajjochojaaAptE
set_option linter.unusedVariables false
set_option linter.unusedSimpArgs false
set_option maxRecDepth 100000
set_option maxHeartbeats 4000000
namespace Go.Es.Apt
open Go.Proofs
theorem c_4_0_false (v0 : Int) (v1 : Int)  : run (prog tab1 X1 100) 100 (G2 4 0) [.d (.int .i64 v0), .d (.int .i64 v1), .d (.bool false)] = some (.d (.bool true), [.d (.int .i64 v0), .d (.int .i64 v1), .d (.bool false)]) := by kernel_rfl
theorem c_4_1_false (v0 : Int) (v1 : Int)  : run (prog tab1 X1 100) 100 (G2 4 1) [.d (.int .i64 v0), .d (.int .i64 v1), .d (.bool false)] = some (.d (.bool true), [.d (.int .i64 v0), .d (.int .i64 v1), .d (.bool false)]) := by kernel_rfl
theorem c_4_2_false (v0 : Int) (v1 : Int)  : run (prog tab1 X1 100) 100 (G2 4 2) [.d (.int .i64 v0), .d (.int .i64 v1), .d (.bool false)] = some (.d (.bool true), [.d (.int .i64 v0), .d (.int .i64 v1), .d (.bool false)]) := by kernel_rfl
theorem c_4_3_false (v0 : Int) (v1 : Int)  : run (prog tab1 X1 100) 100 (G2 4 3) [.d (.int .i64 v0), .d (.int .i64 v1), .d (.bool false)] = some (.d (.bool true), [.d (.int .i64 v0), .d (.int .i64 v1), .d (.bool false)]) := by kernel_rfl
theorem c_5_0_false (v0 : Int) (v1 : Int)  : run (prog tab1 X1 100) 100 (G2 5 0) [.d (.int .i64 v0), .d (.int .i64 v1), .d (.bool false)] = some (.d (.bool true), [.d (.int .i64 v0), .d (.int .i64 v1), .d (.bool false)]) := by kernel_rfl
theorem c_5_1_false (v0 : Int) (v1 : Int)  : run (prog tab1 X1 100) 100 (G2 5 1) [.d (.int .i64 v0), .d (.int .i64 v1), .d (.bool false)] = some (.d (.bool true), [.d (.int .i64 v0), .d (.int .i64 v1), .d (.bool false)]) := by kernel_rfl
theorem c_5_2_false (v0 : Int) (v1 : Int)  : run (prog tab1 X1 100) 100 (G2 5 2) [.d (.int .i64 v0), .d (.int .i64 v1), .d (.bool false)] = some (.d (.bool true), [.d (.int .i64 v0), .d (.int .i64 v1), .d (.bool false)]) := by kernel_rfl
theorem c_5_3_false (v0 : Int) (v1 : Int)  : run (prog tab1 X1 100) 100 (G2 5 3) [.d (.int .i64 v0), .d (.int .i64 v1), .d (.bool false)] = some (.d (.bool true), [.d (.int .i64 v0), .d (.int .i64 v1), .d (.bool false)]) := by kernel_rfl
end Go.Es.Apt
