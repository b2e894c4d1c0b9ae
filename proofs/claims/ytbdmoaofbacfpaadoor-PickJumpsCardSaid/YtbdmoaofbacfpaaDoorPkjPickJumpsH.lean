/- The law PickJumps in plain Lean. No condition. -/
import Derived.Test.YtbdmoaofbacfpaaDoorPkjH
set_option linter.unusedVariables false
set_option linter.unusedSimpArgs false
set_option maxHeartbeats 4000000
set_option maxRecDepth 100000
namespace Go.Es.Pkj
/-- the law in plain Lean -/
theorem pickJumps_true (n : Int) (long far : Bool) (w : wfI .i64 n) (_w1 : True) (_w2 : True) : hansomlaw34_PickJumps n long far = some true := by
  unfold hansomlaw34_PickJumps
  generalize bitsOp .and .i64 n 65535 = m
  cases far with
  | true =>
    rw [if_pos rfl]
    unfold hansomlaw34_PickJumps_j10
    show ((pick_Pick _ (oJ m 102 false) long).bind fun r_1 => ((pick_Pick _ (oJ m 102 false) long).bind fun r_2 => ((pick_Pick _ (oJ m 102 false) long).bind fun r_3 => ((pick_Pick _ (oJ m 102 true) false).bind _)))) = _
    rw [q_jmp, Option.bind_some, q_jz, Option.bind_some, q_call, Option.bind_some, q_shrt, Option.bind_some, if_pos rfl, awk]
    rfl
  | false =>
    rw [if_neg (by simp)]
    unfold hansomlaw34_PickJumps_j10
    show ((pick_Pick _ (oJ m 101 false) long).bind fun r_1 => ((pick_Pick _ (oJ m 101 false) long).bind fun r_2 => ((pick_Pick _ (oJ m 101 false) long).bind fun r_3 => ((pick_Pick _ (oJ m 101 true) false).bind _)))) = _
    rw [p_jmp, Option.bind_some, p_jz, Option.bind_some, p_call, Option.bind_some, p_shrt, Option.bind_some, if_neg (by simp)]
    have key : ∀ op : Int, hansomlaw34_PickJumps_j40 ({ Kind := 4, N := 0, RM := 8, V := vJ m, Type_ := 101, Over := 0, Short := false } : Operand) (cJ m op true) (cJ m 116 true) (cJ m 232 true) 0 0 0 6 op = some true := by
      intro op
      unfold hansomlaw34_PickJumps_j40
      simp [awk, cJ, vJ]
    cases long with
    | true => exact key 233
    | false => exact key 235
end Go.Es.Pkj
