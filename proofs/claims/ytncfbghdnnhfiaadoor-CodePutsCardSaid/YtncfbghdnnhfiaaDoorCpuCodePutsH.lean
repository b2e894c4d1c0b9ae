/- CodePuts answers true, in plain Lean. No condition. -/
import Derived.Test.YtncfbghdnnhfiaaDoorCpuH
set_option linter.unusedVariables false
set_option linter.unusedSimpArgs false
set_option maxHeartbeats 4000000
set_option maxRecDepth 100000
namespace Go.Es.Cpu
theorem puts10 (i : Inst) (h : okI i) : hansomlaw06_CodePuts_j10 i = some true := by
  unfold hansomlaw06_CodePuts_j10
  rw [putC i h, Option.bind_some, refMay i h, Option.bind_some, awake6]
  cases hm : mayB i with
  | false => rfl
  | true =>
    rw [refPut i h hm]
    simp
theorem codePuts_true (x : Inst) (odd : Bool) (wx : Inst.wf x) (wo : True) : hansomlaw06_CodePuts x odd = some true := by
  obtain ⟨y, h1, hy, hm⟩ := near_spec x (okI_wf wx)
  unfold hansomlaw06_CodePuts
  rw [h1, Option.bind_some]
  cases odd
  · exact puts10 y hy
  · exact puts10 x (okI_wf wx)
end Go.Es.Cpu
