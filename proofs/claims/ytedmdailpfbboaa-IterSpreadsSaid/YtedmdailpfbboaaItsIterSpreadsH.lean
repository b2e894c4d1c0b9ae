/- The law IterSpreads in plain Lean. No condition. -/
import Derived.Test.YtedmdailpfbboaaItsH
set_option linter.unusedVariables false
set_option linter.unusedSimpArgs false
set_option maxHeartbeats 1000000
set_option maxRecDepth 100000
namespace Go.Es.Its
theorem iterSpreads_true (b : Block) (deep : Int) (hb : Block.wf b) (hd : wfI .i64 deep) : hansomlaw24_IterSpreads b deep = some true := by
  unfold hansomlaw24_IterSpreads
  rw [times_eq]
  obtain ⟨d, hdd⟩ : ∃ d : Nat, deep % 4 = d := ⟨(deep % 4).toNat, by omega⟩
  rw [hdd]
  obtain ⟨x, hx, hn⟩ := near_spec d (by omega) 64 (by omega) b hb
  obtain ⟨s, p, hg⟩ := good d (by omega) x hn
  have hmay : iter_May x = some true := by
    unfold iter_May
    have := hg.may 64 1 (by omega) (by omega)
    rw [show (1 : Int) = ((1 : Nat) : Int) from rfl, this]; rfl
  rw [hx, Option.bind_some, hg.ref 64 (by omega), Option.bind_some, hg.spread 64 (by omega), Option.bind_some]
  simp only [hansomlaw24_awake, Option.bind_some, if_true, hmay, hg.size 64 (by omega), hg.put 64 (by omega), hg.refput 64 (by omega), b2s_length, beq_self_eq_true]
end Go.Es.Its
