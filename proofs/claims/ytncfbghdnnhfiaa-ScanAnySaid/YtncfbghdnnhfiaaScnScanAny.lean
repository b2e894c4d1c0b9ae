/- The law ScanAny holds, whatever its arguments are. No condition. -/
import Derived.Test.YtncfbghdnnhfiaaScnS1
import Derived.Test.YtncfbghdnnhfiaaScnD
import Derived.Test.YtncfbghdnnhfiaaScnScanAnyH
import Derived.Test.YtncfbghdnnhfiaaRows
import Derived.KernelRfl
import Derived.ProofKit
import Derived.WalkKit
import Derived.OpenShut
import Derived.ChangeOld
import Derived.SizedLaws
set_option linter.unusedVariables false
set_option linter.unusedSimpArgs false
set_option maxRecDepth 100000
set_option maxHeartbeats 4000000
namespace Go.Proofs.Ytncfbghdnnhfiaa.scanAny
open Go.Es Go.Es.Scn
theorem own : ownKnob Try.prog.godebug = none := by kernel_rfl
theorem rows : (Try.f9.params.toList.all fun t => Try.prog.readableRec t && decide (t < Try.prog.types.size) && plainT Try.prog [40, 36, 3, 5, 4, 34] t) = true := by kernel_rfl
theorem answer (xs : List D) (h : DataOf Try.prog Try.f9.params.toList xs) : ∃ a, L 9 (xs.map T.d) = some (.d (.bool true), a) := by
  cases h with | cons q0 k0 =>
  cases k0 with | cons q1 k1 =>
  cases k1 with | cons q2 k2 =>
  cases k2
  obtain ⟨v0, rfl, w0⟩ := decD40 _ q0.1 q0.2
  obtain ⟨v1, rfl, w1⟩ := decD36 _ q1.1 q1.2
  obtain ⟨v2, rfl, w2⟩ := decD3 _ q2.1 q2.2
  exact ⟨_, hansomlaw07_ScanAny_L v0 v1 v2 true (scanAny_true v0 v1 v2 w0 w1 w2)⟩
theorem lifted (os : Os) (started : os.Started) (H : Type) (enc : TypeId × Value → H) :
    ReturnsInHanded {} Try.checked os 9 .any (Rows.scanAnySpec.pre6 enc Try.prog Try.f9 Rows.scanAnyRow.domain false) (Rows.scanAnySpec.post enc Try.prog Try.f9 false true false false) := by
  refine returnsInHanded_of_change_sized (C := Try.checked) own started (by kernel_rfl) Try.func9
    (ChangeSpec.witness6 (enc := enc) (C := Try.checked) false ⟨#[], #[.slice none 0 0, .agg #[.bool false, .int .i64 0, .int .i64 0, .int .u8 0, .int .i64 0, .int .i64 0, .int .i64 0, .int .u16 0, .int .u16 0, .int .u16 0], .int .i64 0], []⟩ 8 (by kernel_rfl) (by kernel_rfl) (by kernel_rfl) (by kernel_rfl)) ?_
  intro W base args ds gs before hval hW _ _ _
  have hr := rows
  simp only [List.all_eq_true, Bool.and_eq_true, decide_eq_true_eq] at hr
  refine law_calls (P := Try.prog) (tb := 4) Try.func9 (by kernel_rfl) (by kernel_rfl) (by kernel_rfl) (fun t ht => (hr t ht).1) (fun t ht => (hr t ht).2) rfl (by kernel_rfl) (meets1 9) answer rfl ?_ hval hW
  intro ds hds
  match ds, hds with
  | [d0, d1, d2], _ => rfl
theorem over : Rows.scanAnyRow.holds Try.pinned (OpenSpec.ofChange Rows.scanAnySpec) :=
  OpenClaim.holds_of_wide 9 Try.f9 rfl rfl rfl rfl rfl rfl rfl ⟨rfl, rfl, rfl, rfl, rfl⟩ rfl rfl rfl rfl rfl (by kernel_rfl) Try.func9 (by kernel_rfl)
    (of_decide_eq_true (by kernel_rfl)) (by unfold Func.isWrapper; first | (rw [if_pos (by decide +kernel)]; kernel_rfl) | (rw [if_neg (by decide +kernel)]; exact ⟨rfl, rfl⟩))
    (fun os started H enc _ => lifted os started H enc)
theorem proved : Rows.ScanAnySaid := over
#print axioms proved
end Go.Proofs.Ytncfbghdnnhfiaa.scanAny
namespace Go.Proofs.Ytncfbghdnnhfiaa
theorem scanAny_holds : Rows.ScanAnySaid := scanAny.proved
end Go.Proofs.Ytncfbghdnnhfiaa
