/- The law IndexPuts in plain Lean. No condition. -/
import Derived.Test.YtedmdailpfbboaaIxpH
set_option linter.unusedVariables false
set_option linter.unusedSimpArgs false
set_option maxHeartbeats 1000000
namespace Go.Es.Ixp
theorem awake_true : hansomlaw19_awake = some true := by
  unfold hansomlaw19_awake
  rw [from_spec _ (by simp), index_Put_spec]
  simp only [Option.bind_some]
  have hI : index_Source_Index ⟨[129, 44, 2, 65, 66], 0⟩ = some (300, ⟨[2, 65, 66], 0⟩) := by
    unfold index_Source_Index
    rw [byte_cons]
    simp only [Option.bind_some, show (decide ((IntKind.wrap .i64 129) < 128)) = false from rfl, Bool.false_eq_true, if_false]
    rw [byte_cons]
    simp only [Option.bind_some, index_Source_Err]
    rfl
  have hN : index_Source_Name ⟨[2, 65, 66], 0⟩ = some ([65, 66], ⟨[], 0⟩) := by
    have := enc_name [65, 66] (by simp) []
    simpa [enc, s2b] using this
  simp only [hI, hN, Option.bind_some, end_spec]
  rfl
theorem indexPuts_true (n : Int) (s : List UInt8) (w : Int) (w0 : wfI .i64 n) (w1 : wfS s) (w2 : wfI .u32 w) : hansomlaw19_IndexPuts n s w = some true := by
  obtain ⟨h0, h1⟩ := wfI_u32.1 w2
  unfold hansomlaw19_IndexPuts
  have b2 := Bytes_spec (k := 2) (n := w % 65536) (by omega) (by omega) (by omega)
  have b4 := Bytes_spec (k := 4) h0 (by omega) (by omega)
  have wu : IntKind.wrap .u64 w = w := by rw [wrap_u64']; omega
  rw [show (300 : Int) = ((300 : Nat) : Int) from rfl, cut_min]
  simp only [Option.bind_some, awake_true, if_true, index_Put_spec, ref_Index_spec, beq_self_eq_true, index_Name_cut, ref_Name_cut, wu, wrap_u16', Int.tmod_eq_emod_of_nonneg h0]
  rw [index_Two_spec (by omega) (by omega), Option.bind_some, show (2 : Int) = ((2 : Nat) : Int) from rfl, b2]
  simp only [Option.bind_some, beq_self_eq_true, if_true]
  rw [index_Four_spec h0 h1, Option.bind_some, show (4 : Int) = ((4 : Nat) : Int) from rfl, b4]
  simp only [Option.bind_some, beq_self_eq_true, if_true]
  rw [index_Long_spec h0 h1, ref_Long_spec h0 h1]
  simp
end Go.Es.Ixp
