/- The law IterMost holds, whatever its arguments are. No condition. -/
import Derived.Test.YtikbjljifgadmaaItmS0
import Derived.Test.YtikbjljifgadmaaItmD
import Derived.Test.YtikbjljifgadmaaItmIterMostH
import Derived.Test.YtikbjljifgadmaaRows
import Derived.KernelRfl
import Derived.ProofKit
import Derived.WalkKit
import Derived.OpenShut
import Derived.ChangeOld
import Derived.SizedLaws
set_option linter.unusedVariables false
set_option linter.unusedSimpArgs false
set_option maxRecDepth 100000
set_option maxHeartbeats 4000000
namespace Go.Proofs.Ytikbjljifgadmaa.iterMost
open Go.Es Go.Es.Itm
theorem own : ownKnob Try.prog.godebug = none := by kernel_rfl
theorem rows : (Try.f5.params.toList.all fun t => Try.prog.readableRec t && decide (t < Try.prog.types.size) && plainT Try.prog [3] t) = true := by kernel_rfl
theorem answer (xs : List D) (h : DataOf Try.prog Try.f5.params.toList xs) : ∃ a, L 5 (xs.map T.d) = some (.d (.bool true), a) := by
  cases h with | cons q0 k0 =>
  cases k0 with | cons q1 k1 =>
  cases k1
  obtain ⟨v0, rfl, w0⟩ := decD3 _ q0.1 q0.2
  obtain ⟨v1, rfl, w1⟩ := decD3 _ q1.1 q1.2
  exact ⟨_, hansomlaw24_IterMost_L v0 v1 true (iterMost_true v0 v1 w0 w1)⟩
theorem lifted (os : Os) (started : os.Started) (H : Type) (enc : TypeId × Value → H) :
    ReturnsInHanded {} Try.checked os 5 .any (Rows.iterMostSpec.pre6 enc Try.prog Try.f5 Rows.iterMostRow.domain false) (Rows.iterMostSpec.post enc Try.prog Try.f5 false true false false) := by
  refine returnsInHanded_of_change_sized (C := Try.checked) own started (by kernel_rfl) Try.func5
    (ChangeSpec.witness6 (enc := enc) (C := Try.checked) false ⟨#[], #[.int .i64 0, .int .i64 0], []⟩ 8 (by kernel_rfl) (by kernel_rfl) (by kernel_rfl) (by kernel_rfl)) ?_
  intro W base args ds gs before hval hW _ _ _
  have hr := rows
  simp only [List.all_eq_true, Bool.and_eq_true, decide_eq_true_eq] at hr
  refine law_calls (P := Try.prog) (tb := 4) Try.func5 (by kernel_rfl) (by kernel_rfl) (by kernel_rfl) (fun t ht => (hr t ht).1) (fun t ht => (hr t ht).2) rfl (by kernel_rfl) (meets1 5) answer rfl ?_ hval hW
  intro ds hds
  match ds, hds with
  | [d0, d1], _ => rfl
theorem over : Rows.iterMostRow.holds Try.pinned (OpenSpec.ofChange Rows.iterMostSpec) :=
  OpenClaim.holds_of_wide 5 Try.f5 rfl rfl rfl rfl rfl rfl rfl ⟨rfl, rfl, rfl, rfl, rfl⟩ rfl rfl rfl rfl rfl (by kernel_rfl) Try.func5 (by kernel_rfl)
    (of_decide_eq_true (by kernel_rfl)) (by unfold Func.isWrapper; first | (rw [if_pos (by decide +kernel)]; kernel_rfl) | (rw [if_neg (by decide +kernel)]; exact ⟨rfl, rfl⟩))
    (fun os started H enc _ => lifted os started H enc)
theorem proved : Rows.IterMostSaid := over
#print axioms proved
end Go.Proofs.Ytikbjljifgadmaa.iterMost
namespace Go.Proofs.Ytikbjljifgadmaa
theorem iterMost_holds : Rows.IterMostSaid := iterMost.proved
end Go.Proofs.Ytikbjljifgadmaa
