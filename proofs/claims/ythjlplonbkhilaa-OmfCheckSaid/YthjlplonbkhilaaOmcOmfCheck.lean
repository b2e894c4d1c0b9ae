/- The law OmfCheck holds, whatever its arguments are. No condition. -/
import Derived.Test.YthjlplonbkhilaaOmcS1
import Derived.Test.YthjlplonbkhilaaOmcD
import Derived.Test.YthjlplonbkhilaaOmcOmfCheckH
import Derived.Test.YthjlplonbkhilaaRows
import Derived.KernelRfl
import Derived.ProofKit
import Derived.WalkKit
import Derived.OpenShut
import Derived.ChangeOld
import Derived.SizedLaws
set_option linter.unusedVariables false
set_option linter.unusedSimpArgs false
set_option maxRecDepth 100000
set_option maxHeartbeats 4000000
namespace Go.Proofs.Ythjlplonbkhilaa.omfCheck
open Go.Es Go.Es.Omc
theorem own : ownKnob Try.prog.godebug = none := by kernel_rfl
theorem rows : (Try.f3.params.toList.all fun t => Try.prog.readableRec t && decide (t < Try.prog.types.size) && plainT Try.prog [33, 3, 9, 22, 23, 24, 25, 26, 27, 28, 4, 31, 71, 37, 40, 56, 42, 46, 29, 5, 38, 54, 43, 44] t) = true := by kernel_rfl
theorem answer (xs : List D) (h : DataOf Try.prog Try.f3.params.toList xs) : ∃ a, L 3 (xs.map T.d) = some (.d (.bool true), a) := by
  cases h with | cons q0 k0 =>
  cases k0 with | cons q1 k1 =>
  cases k1 with | cons q2 k2 =>
  cases k2
  obtain ⟨v0, rfl, w0⟩ := decD33 _ q0.1 q0.2
  obtain ⟨v1, rfl, w1⟩ := decD3 _ q1.1 q1.2
  obtain ⟨v2, rfl, w2⟩ := decD3 _ q2.1 q2.2
  exact ⟨_, hansomlaw26_OmfCheck_L v0 v1 v2 true (omfCheck_true v0 v1 v2 w0 w1 w2)⟩
theorem lifted (os : Os) (started : os.Started) (H : Type) (enc : TypeId × Value → H) :
    ReturnsInHanded {} Try.checked os 3 .any (Rows.omfCheckSpec.pre6 enc Try.prog Try.f3 Rows.omfCheckRow.domain false) (Rows.omfCheckSpec.post enc Try.prog Try.f3 false true false false) := by
  refine returnsInHanded_of_change_sized (C := Try.checked) own started (by kernel_rfl) Try.func3
    (ChangeSpec.witness6 (enc := enc) (C := Try.checked) false ⟨#[], #[.agg #[.string ⟨#[]⟩, .slice none 0 0, .slice none 0 0, .slice none 0 0, .slice none 0 0, .slice none 0 0, .slice none 0 0, .slice none 0 0, .bool false, .bool false, .int .i64 0, .int .i64 0, .bool false, .int .i64 0, .int .i64 0, .int .i64 0, .int .i64 0, .int .u16 0], .int .i64 0, .int .i64 0], []⟩ 8 (by kernel_rfl) (by kernel_rfl) (by kernel_rfl) (by kernel_rfl)) ?_
  intro W base args ds gs before hval hW _ _ _
  have hr := rows
  simp only [List.all_eq_true, Bool.and_eq_true, decide_eq_true_eq] at hr
  refine law_calls (P := Try.prog) (tb := 4) Try.func3 (by kernel_rfl) (by kernel_rfl) (by kernel_rfl) (fun t ht => (hr t ht).1) (fun t ht => (hr t ht).2) rfl (by kernel_rfl) (meets1 3) answer rfl ?_ hval hW
  intro ds hds
  match ds, hds with
  | [d0, d1, d2], _ => rfl
theorem over : Rows.omfCheckRow.holds Try.pinned (OpenSpec.ofChange Rows.omfCheckSpec) :=
  OpenClaim.holds_of_wide 3 Try.f3 rfl rfl rfl rfl rfl rfl rfl ⟨rfl, rfl, rfl, rfl, rfl⟩ rfl rfl rfl rfl rfl (by kernel_rfl) Try.func3 (by kernel_rfl)
    (of_decide_eq_true (by kernel_rfl)) (by unfold Func.isWrapper; first | (rw [if_pos (by decide +kernel)]; kernel_rfl) | (rw [if_neg (by decide +kernel)]; exact ⟨rfl, rfl⟩))
    (fun os started H enc _ => lifted os started H enc)
theorem proved : Rows.OmfCheckSaid := over
#print axioms proved
end Go.Proofs.Ythjlplonbkhilaa.omfCheck
namespace Go.Proofs.Ythjlplonbkhilaa
theorem omfCheck_holds : Rows.OmfCheckSaid := omfCheck.proved
end Go.Proofs.Ythjlplonbkhilaa
