/- The statement ApplyTwice: all its cases. No condition. -/
import Derived.Test.YtcleoajjochojaaAptC0
import Derived.Test.YtcleoajjochojaaAptC1
import Derived.Test.YtcleoajjochojaaAptC2
import Derived.Test.YtcleoajjochojaaAptC3
import Derived.Test.YtcleoajjochojaaAptC4
set_option linter.unusedVariables false
set_option linter.unusedSimpArgs false
set_option maxRecDepth 100000
set_option maxHeartbeats 4000000
namespace Go.Es.Apt
open Go.Proofs
theorem ev (v0 : Int) (v1 : Int) (v2 : Bool) : L 3 [.d (.int .i64 v0), .d (.int .i64 v1), .d (.bool v2)] = some (.d (.bool true), [.d (.int .i64 v0), .d (.int .i64 v1), .d (.bool v2)]) := by
  apply L_of
  cases v2 with
  | false =>
    rw [toG1]
    have e0 : bitsOp .and .i64 v0 7 = v0 % 8 := and_mask' 3 (by omega) rfl
    have h0 : v0 % 8 = 0 ∨ v0 % 8 = 1 ∨ v0 % 8 = 2 ∨ v0 % 8 = 3 ∨ v0 % 8 = 4 ∨ v0 % 8 = 5 ∨ v0 % 8 = 6 ∨ v0 % 8 = 7 := by omega
    rw [e0]
    rcases h0 with h | h | h | h | h | h | h | h
    · rw [h]
      rw [toG2]
      have e1 : bitsOp .and .i64 v1 3 = v1 % 4 := and_mask' 2 (by omega) rfl
      have h1 : v1 % 4 = 0 ∨ v1 % 4 = 1 ∨ v1 % 4 = 2 ∨ v1 % 4 = 3 := by omega
      rw [e1]
      rcases h1 with h | h | h | h
      · rw [h]
        exact c_0_0_false v0 v1
      · rw [h]
        exact c_0_1_false v0 v1
      · rw [h]
        exact c_0_2_false v0 v1
      · rw [h]
        exact c_0_3_false v0 v1
    · rw [h]
      rw [toG2]
      have e1 : bitsOp .and .i64 v1 3 = v1 % 4 := and_mask' 2 (by omega) rfl
      have h1 : v1 % 4 = 0 ∨ v1 % 4 = 1 ∨ v1 % 4 = 2 ∨ v1 % 4 = 3 := by omega
      rw [e1]
      rcases h1 with h | h | h | h
      · rw [h]
        exact c_1_0_false v0 v1
      · rw [h]
        exact c_1_1_false v0 v1
      · rw [h]
        exact c_1_2_false v0 v1
      · rw [h]
        exact c_1_3_false v0 v1
    · rw [h]
      rw [toG2]
      have e1 : bitsOp .and .i64 v1 3 = v1 % 4 := and_mask' 2 (by omega) rfl
      have h1 : v1 % 4 = 0 ∨ v1 % 4 = 1 ∨ v1 % 4 = 2 ∨ v1 % 4 = 3 := by omega
      rw [e1]
      rcases h1 with h | h | h | h
      · rw [h]
        exact c_2_0_false v0 v1
      · rw [h]
        exact c_2_1_false v0 v1
      · rw [h]
        exact c_2_2_false v0 v1
      · rw [h]
        exact c_2_3_false v0 v1
    · rw [h]
      rw [toG2]
      have e1 : bitsOp .and .i64 v1 3 = v1 % 4 := and_mask' 2 (by omega) rfl
      have h1 : v1 % 4 = 0 ∨ v1 % 4 = 1 ∨ v1 % 4 = 2 ∨ v1 % 4 = 3 := by omega
      rw [e1]
      rcases h1 with h | h | h | h
      · rw [h]
        exact c_3_0_false v0 v1
      · rw [h]
        exact c_3_1_false v0 v1
      · rw [h]
        exact c_3_2_false v0 v1
      · rw [h]
        exact c_3_3_false v0 v1
    · rw [h]
      rw [toG2]
      have e1 : bitsOp .and .i64 v1 3 = v1 % 4 := and_mask' 2 (by omega) rfl
      have h1 : v1 % 4 = 0 ∨ v1 % 4 = 1 ∨ v1 % 4 = 2 ∨ v1 % 4 = 3 := by omega
      rw [e1]
      rcases h1 with h | h | h | h
      · rw [h]
        exact c_4_0_false v0 v1
      · rw [h]
        exact c_4_1_false v0 v1
      · rw [h]
        exact c_4_2_false v0 v1
      · rw [h]
        exact c_4_3_false v0 v1
    · rw [h]
      rw [toG2]
      have e1 : bitsOp .and .i64 v1 3 = v1 % 4 := and_mask' 2 (by omega) rfl
      have h1 : v1 % 4 = 0 ∨ v1 % 4 = 1 ∨ v1 % 4 = 2 ∨ v1 % 4 = 3 := by omega
      rw [e1]
      rcases h1 with h | h | h | h
      · rw [h]
        exact c_5_0_false v0 v1
      · rw [h]
        exact c_5_1_false v0 v1
      · rw [h]
        exact c_5_2_false v0 v1
      · rw [h]
        exact c_5_3_false v0 v1
    · rw [h]
      rw [toG2]
      have e1 : bitsOp .and .i64 v1 3 = v1 % 4 := and_mask' 2 (by omega) rfl
      have h1 : v1 % 4 = 0 ∨ v1 % 4 = 1 ∨ v1 % 4 = 2 ∨ v1 % 4 = 3 := by omega
      rw [e1]
      rcases h1 with h | h | h | h
      · rw [h]
        exact c_6_0_false v0 v1
      · rw [h]
        exact c_6_1_false v0 v1
      · rw [h]
        exact c_6_2_false v0 v1
      · rw [h]
        exact c_6_3_false v0 v1
    · rw [h]
      rw [toG2]
      have e1 : bitsOp .and .i64 v1 3 = v1 % 4 := and_mask' 2 (by omega) rfl
      have h1 : v1 % 4 = 0 ∨ v1 % 4 = 1 ∨ v1 % 4 = 2 ∨ v1 % 4 = 3 := by omega
      rw [e1]
      rcases h1 with h | h | h | h
      · rw [h]
        exact c_7_0_false v0 v1
      · rw [h]
        exact c_7_1_false v0 v1
      · rw [h]
        exact c_7_2_false v0 v1
      · rw [h]
        exact c_7_3_false v0 v1
  | true =>
    rw [toG1]
    have e0 : bitsOp .and .i64 v0 7 = v0 % 8 := and_mask' 3 (by omega) rfl
    have h0 : v0 % 8 = 0 ∨ v0 % 8 = 1 ∨ v0 % 8 = 2 ∨ v0 % 8 = 3 ∨ v0 % 8 = 4 ∨ v0 % 8 = 5 ∨ v0 % 8 = 6 ∨ v0 % 8 = 7 := by omega
    rw [e0]
    rcases h0 with h | h | h | h | h | h | h | h
    · rw [h]
      exact c_0_x_true v0 v1
    · rw [h]
      exact c_1_x_true v0 v1
    · rw [h]
      exact c_2_x_true v0 v1
    · rw [h]
      exact c_3_x_true v0 v1
    · rw [h]
      exact c_4_x_true v0 v1
    · rw [h]
      exact c_5_x_true v0 v1
    · rw [h]
      exact c_6_x_true v0 v1
    · rw [h]
      exact c_7_x_true v0 v1
end Go.Es.Apt
