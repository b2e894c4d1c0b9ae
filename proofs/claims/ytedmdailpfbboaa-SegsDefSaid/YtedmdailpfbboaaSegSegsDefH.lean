/- The law SegsDef in plain Lean. No condition. -/
import Derived.Test.YtedmdailpfbboaaSegH
set_option linter.unusedVariables false
set_option linter.unusedSimpArgs false
set_option maxHeartbeats 1000000
namespace Go.Es.Seg
theorem segsDef_true (s : SegDef) (odd : Int) (w : SegDef.wf s) (w1 : wfI .i64 odd) : hansomlaw21_SegsDef s odd = some true := by
  obtain ⟨x, hx, hf, ho⟩ := near_spec s odd w
  unfold hansomlaw21_SegsDef
  rw [hx, Option.bind_some, segment_spec x hf.1 hf.2, Option.bind_some, awake_true, Option.bind_some, may_spec, Option.bind_some, refmay_spec]
  by_cases hm : mayS x
  · simp only [hm, if_true, decide_true, Bool.not_true, Bool.false_eq_true, if_false, Option.bind_some, bne_self_eq_false]
    rw [def_segment x hm hf ho, Option.bind_some, ref_segment x hm hf]
    simp
  · simp [hm]
end Go.Es.Seg
