/- Values as data: in plain Lean. No condition. -/
import Derived.Test.YtbogbgbpahonoaaEmvP
set_option linter.unusedVariables false
set_option linter.unusedSimpArgs false
set_option maxHeartbeats 1000000
namespace Go.Es.Emv

theorem low_eq (N : Int) : IntKind.wrap .u8 (IntKind.wrap .u16 N) = IntKind.wrap .u8 (IntKind.wrap .u32 N) := by
  rw [IntKind.wrap_u8, IntKind.wrap_u8, wrap_u16', IntKind.wrap_u32]; omega
theorem high_eq (N : Int) : IntKind.wrap .u8 (shrI .u16 (IntKind.wrap .u16 N) 8) = IntKind.wrap .u8 (shrI .u32 (IntKind.wrap .u32 N) 8) := by
  have h1 : shrI .u16 (IntKind.wrap .u16 N) 8 = (IntKind.wrap .u16 N) / 256 := shr_eq (j := 8) (by decide)
  have h2 : shrI .u32 (IntKind.wrap .u32 N) 8 = (IntKind.wrap .u32 N) / 256 := shr_eq (j := 8) (by decide)
  rw [h1, h2, IntKind.wrap_u8, IntKind.wrap_u8, wrap_u16', IntKind.wrap_u32]; omega

theorem awake_true : hansomlaw37_awake = some true := by
  simp [hansomlaw37_awake, emit_Word, value_Plain, emit_Fix, emit_By, bits_Low, bits_High, mk, idx, b2s, IntKind.wrap, IntKind.bits, IntKind.signed, shrI]

theorem mk2 : mk 1 (0 : Int) 2 = some [0, 0] := by rw [mk_eq (by omega) (by omega) (by omega)]; rfl
theorem mk4 : mk 1 (0 : Int) 4 = some [0, 0, 0, 0] := by rw [mk_eq (by omega) (by omega) (by omega)]; rfl

theorem emitValues_true (v : api_Value) (from_ which : Int) (hv : v.wf) (hf : wfI .i64 from_) (hw : wfI .i64 which) : hansomlaw37_EmitValues v from_ which = some true := by
  unfold hansomlaw37_EmitValues
  have e3 : bitsOp .and .i64 v.From 3 = v.From % 4 := and_mask v.From 2 (by omega)
  rw [e3]
  have h0 : 0 ≤ v.From % 4 := by omega
  have h3 : v.From % 4 ≤ 3 := by omega
  generalize v.From % 4 = f at h0 h3
  generalize Int.tmod (bitsOp .and .i64 v.Wants 255) 3 = w
  have hcase : f = 0 ∨ f = 1 ∨ f = 2 ∨ f = 3 := by omega
  have key : ∀ (x : api_Value), (x.From = 0 → x.Wants = 0) → (x.From = 0 ∨ x.From = 1 ∨ x.From = 2 ∨ x.From = 3) → hansomlaw37_EmitValues_j12 x from_ which = some true := by
    rintro ⟨N, F, Wh, Ty, Wa, Kn⟩ h1 h2
    simp only at h1 h2
    have hfrom : from_ = 0 ∨ from_ = 2 ∨ from_ = 3 ∨ (¬ from_ = 0 ∧ ¬ from_ = 2 ∧ ¬ from_ = 3) := by omega
    rcases h2 with rfl | rfl | rfl | rfl
    · obtain rfl := h1 rfl
      rcases hfrom with rfl | rfl | rfl | ⟨a, b, c⟩ <;>
        simp [hansomlaw37_EmitValues_j12, emit_Word, emit_Long, value_Plain, emit_Fix, emit_By, bits_Low, bits_High, hansomlaw37_EmitValues_j41, idx, awake_true, low_eq, high_eq, *]
    · by_cases hwa : Wa = 2 <;> rcases hfrom with rfl | rfl | rfl | ⟨a, b, c⟩ <;>
        simp [hansomlaw37_EmitValues_j12, emit_Word, emit_Long, value_Plain, emit_Fix, emit_By, bits_Low, bits_High, hansomlaw37_EmitValues_j41, hansomlaw37_EmitValues_j65, idx, awake_true, mk2, mk4, b2s, *]
    · by_cases hwa : Wa = 2 <;> rcases hfrom with rfl | rfl | rfl | ⟨a, b, c⟩ <;>
        simp [hansomlaw37_EmitValues_j12, emit_Word, emit_Long, value_Plain, emit_Fix, emit_By, bits_Low, bits_High, hansomlaw37_EmitValues_j41, hansomlaw37_EmitValues_j65, idx, awake_true, mk2, mk4, b2s, *]
    · by_cases hwa : Wa = 2 <;> rcases hfrom with rfl | rfl | rfl | ⟨a, b, c⟩ <;>
        simp [hansomlaw37_EmitValues_j12, emit_Word, emit_Long, value_Plain, emit_Fix, emit_By, bits_Low, bits_High, hansomlaw37_EmitValues_j41, hansomlaw37_EmitValues_j65, idx, awake_true, mk2, mk4, b2s, *]
  split
  · exact key _ (fun _ => rfl) hcase
  · rename_i h
    exact key _ (fun h' => by simp only at h'; simp [h'] at h) hcase
end Go.Es.Emv
