/- The law ScanAll holds, whatever its arguments are. No condition. -/
import Derived.Test.YtncfbghdnnhfiaaScaS1
import Derived.Test.YtncfbghdnnhfiaaScaD
import Derived.Test.YtncfbghdnnhfiaaScaScanAllH
import Derived.Test.YtncfbghdnnhfiaaRows
import Derived.KernelRfl
import Derived.ProofKit
import Derived.WalkKit
import Derived.OpenShut
import Derived.ChangeOld
import Derived.SizedLaws
set_option linter.unusedVariables false
set_option linter.unusedSimpArgs false
set_option maxRecDepth 100000
set_option maxHeartbeats 4000000
namespace Go.Proofs.Ytncfbghdnnhfiaa.scanAll
open Go.Es Go.Es.Sca
theorem own : ownKnob Try.prog.godebug = none := by kernel_rfl
theorem rows : (Try.f10.params.toList.all fun t => Try.prog.readableRec t && decide (t < Try.prog.types.size) && plainT Try.prog [51, 3, 36, 4, 5, 34] t) = true := by kernel_rfl
theorem answer (xs : List D) (h : DataOf Try.prog Try.f10.params.toList xs) : ∃ a, L 10 (xs.map T.d) = some (.d (.bool true), a) := by
  cases h with | cons q0 k0 =>
  cases k0 with | cons q1 k1 =>
  cases k1
  obtain ⟨v0, rfl, w0⟩ := decD51 _ q0.1 q0.2
  obtain ⟨v1, rfl, w1⟩ := decD3 _ q1.1 q1.2
  exact ⟨_, hansomlaw07_ScanAll_L v0 v1 true (scanAll_true v0 v1 w0 w1)⟩
theorem lifted (os : Os) (started : os.Started) (H : Type) (enc : TypeId × Value → H) :
    ReturnsInHanded {} Try.checked os 10 .any (Rows.scanAllSpec.pre6 enc Try.prog Try.f10 Rows.scanAllRow.domain false) (Rows.scanAllSpec.post enc Try.prog Try.f10 false true false false) := by
  refine returnsInHanded_of_change_sized (C := Try.checked) own started (by kernel_rfl) Try.func10
    (ChangeSpec.witness6 (enc := enc) (C := Try.checked) false ⟨#[], #[.slice none 0 0, .int .i64 0], []⟩ 8 (by kernel_rfl) (by kernel_rfl) (by kernel_rfl) (by kernel_rfl)) ?_
  intro W base args ds gs before hval hW _ _ _
  have hr := rows
  simp only [List.all_eq_true, Bool.and_eq_true, decide_eq_true_eq] at hr
  refine law_calls (P := Try.prog) (tb := 4) Try.func10 (by kernel_rfl) (by kernel_rfl) (by kernel_rfl) (fun t ht => (hr t ht).1) (fun t ht => (hr t ht).2) rfl (by kernel_rfl) (meets1 10) answer rfl ?_ hval hW
  intro ds hds
  match ds, hds with
  | [d0, d1], _ => rfl
theorem over : Rows.scanAllRow.holds Try.pinned (OpenSpec.ofChange Rows.scanAllSpec) :=
  OpenClaim.holds_of_wide 10 Try.f10 rfl rfl rfl rfl rfl rfl rfl ⟨rfl, rfl, rfl, rfl, rfl⟩ rfl rfl rfl rfl rfl (by kernel_rfl) Try.func10 (by kernel_rfl)
    (of_decide_eq_true (by kernel_rfl)) (by unfold Func.isWrapper; first | (rw [if_pos (by decide +kernel)]; kernel_rfl) | (rw [if_neg (by decide +kernel)]; exact ⟨rfl, rfl⟩))
    (fun os started H enc _ => lifted os started H enc)
theorem proved : Rows.ScanAllSaid := over
#print axioms proved
end Go.Proofs.Ytncfbghdnnhfiaa.scanAll
namespace Go.Proofs.Ytncfbghdnnhfiaa
theorem scanAll_holds : Rows.ScanAllSaid := scanAll.proved
end Go.Proofs.Ytncfbghdnnhfiaa
