/- The statement ApplyTwice, case by case: part 0. No condition. -/
import Derived.Test.YtcleoajjochojaaAptE
set_option linter.unusedVariables false
set_option linter.unusedSimpArgs false
set_option maxRecDepth 100000
set_option maxHeartbeats 4000000
namespace Go.Es.Apt
open Go.Proofs
theorem c_0_x_true (v0 : Int) (v1 : Int)  : run (prog tab1 X1 100) 100 (G1 0) [.d (.int .i64 v0), .d (.int .i64 v1), .d (.bool true)] = some (.d (.bool true), [.d (.int .i64 v0), .d (.int .i64 v1), .d (.bool true)]) := by kernel_rfl
theorem c_1_x_true (v0 : Int) (v1 : Int)  : run (prog tab1 X1 100) 100 (G1 1) [.d (.int .i64 v0), .d (.int .i64 v1), .d (.bool true)] = some (.d (.bool true), [.d (.int .i64 v0), .d (.int .i64 v1), .d (.bool true)]) := by kernel_rfl
theorem c_2_x_true (v0 : Int) (v1 : Int)  : run (prog tab1 X1 100) 100 (G1 2) [.d (.int .i64 v0), .d (.int .i64 v1), .d (.bool true)] = some (.d (.bool true), [.d (.int .i64 v0), .d (.int .i64 v1), .d (.bool true)]) := by kernel_rfl
theorem c_3_x_true (v0 : Int) (v1 : Int)  : run (prog tab1 X1 100) 100 (G1 3) [.d (.int .i64 v0), .d (.int .i64 v1), .d (.bool true)] = some (.d (.bool true), [.d (.int .i64 v0), .d (.int .i64 v1), .d (.bool true)]) := by kernel_rfl
theorem c_4_x_true (v0 : Int) (v1 : Int)  : run (prog tab1 X1 100) 100 (G1 4) [.d (.int .i64 v0), .d (.int .i64 v1), .d (.bool true)] = some (.d (.bool true), [.d (.int .i64 v0), .d (.int .i64 v1), .d (.bool true)]) := by kernel_rfl
theorem c_5_x_true (v0 : Int) (v1 : Int)  : run (prog tab1 X1 100) 100 (G1 5) [.d (.int .i64 v0), .d (.int .i64 v1), .d (.bool true)] = some (.d (.bool true), [.d (.int .i64 v0), .d (.int .i64 v1), .d (.bool true)]) := by kernel_rfl
theorem c_6_x_true (v0 : Int) (v1 : Int)  : run (prog tab1 X1 100) 100 (G1 6) [.d (.int .i64 v0), .d (.int .i64 v1), .d (.bool true)] = some (.d (.bool true), [.d (.int .i64 v0), .d (.int .i64 v1), .d (.bool true)]) := by kernel_rfl
theorem c_7_x_true (v0 : Int) (v1 : Int)  : run (prog tab1 X1 100) 100 (G1 7) [.d (.int .i64 v0), .d (.int .i64 v1), .d (.bool true)] = some (.d (.bool true), [.d (.int .i64 v0), .d (.int .i64 v1), .d (.bool true)]) := by kernel_rfl
end Go.Es.Apt
