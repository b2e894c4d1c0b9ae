/- The law IsaAll holds, whatever its arguments are. No condition. -/
import Derived.Test.YtncfbghdnnhfiaaIaaS1
import Derived.Test.YtncfbghdnnhfiaaIaaD
import Derived.Test.YtncfbghdnnhfiaaIaaIsaAllH
import Derived.Test.YtncfbghdnnhfiaaRows
import Derived.KernelRfl
import Derived.ProofKit
import Derived.WalkKit
import Derived.OpenShut
import Derived.ChangeOld
import Derived.SizedLaws
set_option linter.unusedVariables false
set_option linter.unusedSimpArgs false
set_option maxRecDepth 100000
set_option maxHeartbeats 4000000
namespace Go.Proofs.Ytncfbghdnnhfiaa.isaAll
open Go.Es Go.Es.Iaa
theorem own : ownKnob Try.prog.godebug = none := by kernel_rfl
theorem rows : (Try.f3.params.toList.all fun t => Try.prog.readableRec t && decide (t < Try.prog.types.size) && plainT Try.prog 10 t) = true := by kernel_rfl
theorem answer (xs : List D) (h : DataOf Try.prog Try.f3.params.toList xs) : ∃ a, L 3 (xs.map T.d) = some (.d (.bool true), a) := by
  cases h with | cons q0 k0 =>
  cases k0
  obtain ⟨v0, rfl, w0⟩ := decD5 _ q0.1 q0.2
  exact ⟨_, hansomlaw04_IsaAll_L v0 true (isaAll_true v0 w0)⟩
theorem lifted (os : Os) (started : os.Started) (H : Type) (enc : TypeId × Value → H) :
    ReturnsInHanded {} Try.checked os 3 .any (Rows.isaAllSpec.pre6 enc Try.prog Try.f3 Rows.isaAllRow.domain false) (Rows.isaAllSpec.post enc Try.prog Try.f3 false true false false) := by
  refine returnsInHanded_of_change_sized (C := Try.checked) own started (by kernel_rfl) Try.func3
    (ChangeSpec.witness6 (enc := enc) (C := Try.checked) false ⟨#[], #[.int .u8 0], []⟩ 8 (by kernel_rfl) (by kernel_rfl) (by kernel_rfl) (by kernel_rfl)) ?_
  intro W base args ds gs before hval hW _ _ _
  have hr := rows
  simp only [List.all_eq_true, Bool.and_eq_true, decide_eq_true_eq] at hr
  refine law_calls (P := Try.prog) (tb := 4) Try.func3 (by kernel_rfl) (by kernel_rfl) (by kernel_rfl) (fun t ht => (hr t ht).1) (fun t ht => (hr t ht).2) rfl (by kernel_rfl) (meets1 3) answer rfl ?_ hval hW
  intro ds hds
  match ds, hds with
  | [d0], _ => rfl
theorem over : Rows.isaAllRow.holds Try.pinned (OpenSpec.ofChange Rows.isaAllSpec) :=
  OpenClaim.holds_of_wide 3 Try.f3 rfl rfl rfl rfl rfl rfl rfl ⟨rfl, rfl, rfl, rfl, rfl⟩ rfl rfl rfl rfl rfl (by kernel_rfl) Try.func3 (by kernel_rfl)
    (of_decide_eq_true (by kernel_rfl)) (by unfold Func.isWrapper; first | (rw [if_pos (by decide +kernel)]; kernel_rfl) | (rw [if_neg (by decide +kernel)]; exact ⟨rfl, rfl⟩))
    (fun os started H enc _ => lifted os started H enc)
theorem proved : Rows.IsaAllSaid := over
#print axioms proved
end Go.Proofs.Ytncfbghdnnhfiaa.isaAll
namespace Go.Proofs.Ytncfbghdnnhfiaa
theorem isaAll_holds : Rows.IsaAllSaid := isaAll.proved
end Go.Proofs.Ytncfbghdnnhfiaa
