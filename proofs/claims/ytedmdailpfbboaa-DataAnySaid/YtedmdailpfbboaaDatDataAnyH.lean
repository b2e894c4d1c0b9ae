/- The law DataAny in plain Lean. No condition. -/
import Derived.Test.YtedmdailpfbboaaDatH
set_option linter.unusedVariables false
set_option linter.unusedSimpArgs false
set_option maxHeartbeats 1000000
namespace Go.Es.Dat
theorem dataAny_true (b : List Int) (w : wfL (wfI .u8) b) : hansomlaw23_DataAny b = some true := by
  unfold hansomlaw23_DataAny
  have hz : ∀ c ∈ b.take 40, wfI .u8 c := fun c hc => w.2 c (List.mem_of_mem_take hc)
  have hl : (b.take 40).length ≤ 40 := by simp; omega
  rw [show (40 : Int) = ((40 : Nat) : Int) from rfl, cut_min, Option.bind_some, get_spec _ hz (by omega), Option.bind_some]
  rcases getD_cases _ hz with ⟨e, h1, he⟩ | ⟨v, w', t, h1, hm, w0, w1, hl2⟩
  · rw [h1]
    rcases he with rfl | rfl <;> simp [awake_true, noD]
  · rw [h1]
    simp only [if_true, awake_true, Option.bind_some, may_spec v w' t [] w0 w1, hm, bne_self_eq_false, Bool.false_eq_true, if_false]
    rw [wrap64 (by omega) (by omega)]
    simp only [Option.some.injEq, decide_eq_true_eq]; omega
end Go.Es.Dat
