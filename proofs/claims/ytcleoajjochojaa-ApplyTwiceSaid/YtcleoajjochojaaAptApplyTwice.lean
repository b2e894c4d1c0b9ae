/- The law ApplyTwice holds, whatever its arguments are. No condition. -/
import Derived.Test.YtcleoajjochojaaAptA
import Derived.Test.YtcleoajjochojaaRows
import Derived.KernelRfl
import Derived.ProofKit
import Derived.WalkKit
import Derived.OpenShut
import Derived.ChangeOld
import Derived.SizedLaws
set_option linter.unusedVariables false
set_option linter.unusedSimpArgs false
set_option maxRecDepth 100000
set_option maxHeartbeats 4000000
namespace Go.Proofs.Ytcleoajjochojaa.applyTwice
open Go.Es Go.Es.Apt
theorem dec3 : Dec Try.prog 3 (fun n => [.int .i64 n]) (wfI .i64) := dec_int (by kernel_rfl)
theorem decD3 : DecD Try.prog 3 (D.int .i64) (wfI .i64) := decD_flat (by kernel_rfl) dec3
theorem dec4 : Dec Try.prog 4 (fun b => [.bool b]) (fun _ => True) := dec_bool (by kernel_rfl)
theorem decD4 : DecD Try.prog 4 D.bool (fun _ => True) := decD_flat (by kernel_rfl) dec4
theorem own : ownKnob Try.prog.godebug = none := by kernel_rfl
theorem rows : (Try.f3.params.toList.all fun t => Try.prog.readableRec t && decide (t < Try.prog.types.size) && plainT Try.prog [3, 4] t) = true := by kernel_rfl
theorem answer (xs : List D) (h : DataOf Try.prog Try.f3.params.toList xs) : ∃ a, L 3 (xs.map T.d) = some (.d (.bool true), a) := by
  cases h with | cons q0 k0 =>
  cases k0 with | cons q1 k1 =>
  cases k1 with | cons q2 k2 =>
  cases k2
  obtain ⟨v0, rfl, w0⟩ := decD3 _ q0.1 q0.2
  obtain ⟨v1, rfl, w1⟩ := decD3 _ q1.1 q1.2
  obtain ⟨v2, rfl, w2⟩ := decD4 _ q2.1 q2.2
  exact ⟨_, ev v0 v1 v2⟩
theorem lifted (os : Os) (started : os.Started) (H : Type) (enc : TypeId × Value → H) :
    ReturnsInHanded {} Try.checked os 3 .any (Rows.applyTwiceSpec.pre6 enc Try.prog Try.f3 Rows.applyTwiceRow.domain false) (Rows.applyTwiceSpec.post enc Try.prog Try.f3 false true false false) := by
  refine returnsInHanded_of_change_sized (C := Try.checked) own started (by kernel_rfl) Try.func3
    (ChangeSpec.witness6 (enc := enc) (C := Try.checked) false ⟨#[], #[.int .i64 0, .int .i64 0, .bool false], []⟩ 8 (by kernel_rfl) (by kernel_rfl) (by kernel_rfl) (by kernel_rfl)) ?_
  intro W base args ds gs before hval hW _ _ _
  have hr := rows
  simp only [List.all_eq_true, Bool.and_eq_true, decide_eq_true_eq] at hr
  refine law_calls (P := Try.prog) (tb := 4) Try.func3 (by kernel_rfl) (by kernel_rfl) (by kernel_rfl) (fun t ht => (hr t ht).1) (fun t ht => (hr t ht).2) rfl (by kernel_rfl) (meets1 3) answer rfl ?_ hval hW
  intro ds hds
  match ds, hds with
  | [d0, d1, d2], _ => rfl
theorem over : Rows.applyTwiceRow.holds Try.pinned (OpenSpec.ofChange Rows.applyTwiceSpec) :=
  OpenClaim.holds_of_wide 3 Try.f3 rfl rfl rfl rfl rfl rfl rfl ⟨rfl, rfl, rfl, rfl, rfl⟩ rfl rfl rfl rfl rfl (by kernel_rfl) Try.func3 (by kernel_rfl)
    (of_decide_eq_true (by kernel_rfl)) (by unfold Func.isWrapper; first | (rw [if_pos (by decide +kernel)]; kernel_rfl) | (rw [if_neg (by decide +kernel)]; exact ⟨rfl, rfl⟩))
    (fun os started H enc _ => lifted os started H enc)
theorem proved : Rows.ApplyTwiceSaid := over
#print axioms proved
end Go.Proofs.Ytcleoajjochojaa.applyTwice
namespace Go.Proofs.Ytcleoajjochojaa
theorem applyTwice_holds : Rows.ApplyTwiceSaid := applyTwice.proved
end Go.Proofs.Ytcleoajjochojaa
