/- The law LibHash holds, whatever its arguments are. No condition. -/
import Derived.Test.YteikhdaaofiefaaGreatLbhS0
import Derived.Test.YteikhdaaofiefaaGreatLbhD
import Derived.Test.YteikhdaaofiefaaGreatLbhLibHashH
import Derived.Test.YteikhdaaofiefaaGreatRows
import Derived.KernelRfl
import Derived.ProofKit
import Derived.WalkKit
import Derived.OpenShut
import Derived.ChangeOld
import Derived.SizedLaws
set_option linter.unusedVariables false
set_option linter.unusedSimpArgs false
set_option maxRecDepth 100000
set_option maxHeartbeats 4000000
namespace Go.Proofs.YteikhdaaofiefaaGreat.libHash
open Go.Es Go.Es.Lbh
theorem own : ownKnob Tryz.prog.godebug = none := by kernel_rfl
theorem rows : (Tryz.f3.params.toList.all fun t => Tryz.prog.readableRec t && decide (t < Tryz.prog.types.size) && plainT Tryz.prog [9, 3] t) = true := by kernel_rfl
theorem answer (xs : List D) (h : DataOf Tryz.prog Tryz.f3.params.toList xs) : ∃ a, L 3 (xs.map T.d) = some (.d (.bool true), a) := by
  cases h with | cons q0 k0 =>
  cases k0 with | cons q1 k1 =>
  cases k1
  obtain ⟨v0, rfl, w0⟩ := decD9 _ q0.1 q0.2
  obtain ⟨v1, rfl, w1⟩ := decD3 _ q1.1 q1.2
  exact ⟨_, hansomlaw27_LibHash_L v0 v1 true (libHash_true v0 v1 w0 w1)⟩
theorem lifted (os : Os) (started : os.Started) (H : Type) (enc : TypeId × Value → H) :
    ReturnsInHanded {} Tryz.checked os 3 .any (Rows.libHashSpec.pre6 enc Tryz.prog Tryz.f3 Rows.libHashRow.domain false) (Rows.libHashSpec.post enc Tryz.prog Tryz.f3 false true false false) := by
  refine returnsInHanded_of_change_sized (C := Tryz.checked) own started (by kernel_rfl) Tryz.func3
    (ChangeSpec.witness6 (enc := enc) (C := Tryz.checked) false ⟨#[], #[.string ⟨#[]⟩, .int .i64 0], []⟩ 8 (by kernel_rfl) (by kernel_rfl) (by kernel_rfl) (by kernel_rfl)) ?_
  intro W base args ds gs before hval hW _ _ _
  have hr := rows
  simp only [List.all_eq_true, Bool.and_eq_true, decide_eq_true_eq] at hr
  refine law_calls (P := Tryz.prog) (tb := 4) Tryz.func3 (by kernel_rfl) (by kernel_rfl) (by kernel_rfl) (fun t ht => (hr t ht).1) (fun t ht => (hr t ht).2) rfl (by kernel_rfl) (meets1 3) answer rfl ?_ hval hW
  intro ds hds
  match ds, hds with
  | [d0, d1], _ => rfl
theorem over : Rows.libHashRow.holds Tryz.pinned (OpenSpec.ofChange Rows.libHashSpec) :=
  OpenClaim.holds_of_wide 3 Tryz.f3 rfl rfl rfl rfl rfl rfl rfl ⟨rfl, rfl, rfl, rfl, rfl⟩ rfl rfl rfl rfl rfl (by kernel_rfl) Tryz.func3 (by kernel_rfl)
    (of_decide_eq_true (by kernel_rfl)) (by unfold Func.isWrapper; first | (rw [if_pos (by decide +kernel)]; kernel_rfl) | (rw [if_neg (by decide +kernel)]; exact ⟨rfl, rfl⟩))
    (fun os started H enc _ => lifted os started H enc)
theorem proved : Rows.LibHashSaid := over
#print axioms proved
end Go.Proofs.YteikhdaaofiefaaGreat.libHash
namespace Go.Proofs.YteikhdaaofiefaaGreat
theorem libHash_holds : Rows.LibHashSaid := libHash.proved
end Go.Proofs.YteikhdaaofiefaaGreat
