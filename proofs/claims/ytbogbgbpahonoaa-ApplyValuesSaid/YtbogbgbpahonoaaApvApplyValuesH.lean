/- The law ApplyValues in plain Lean. No condition. -/
import Derived.Test.YtbogbgbpahonoaaApvH
set_option linter.unusedVariables false
set_option linter.unusedSimpArgs false
set_option maxHeartbeats 1000000
set_option maxRecDepth 100000
namespace Go.Es.Apv
theorem shl4 {p : Int} (h0 : 0 ≤ p) (h1 : p ≤ 65535) : shlI .i64 p 4 = 16 * p := by
  have : shlI .i64 p 4 = IntKind.wrap .i64 (p * 16) := rfl
  rw [this, wrap64 (by omega) (by omega)]; omega
theorem awk : hansomlaw42_awake = some true := rfl
theorem j22_true (x : Fixup) (T pt P A : Int) (tf fixed : Bool) (hT : 0 ≤ T ∧ T < 1048576) (hP : 0 ≤ P ∧ P ≤ 65535) (hA : 0 ≤ A ∧ A ≤ 1048832) :
    hansomlaw42_ApplyValues_j22 x ⟨T, pt, tf⟩ ⟨0, P, false⟩ fixed A = some true := by
  obtain ⟨s, hs, s1, s4⟩ := size_ok x.Loc
  have hs' : fixup_Size x.Loc = some s := hs
  unfold hansomlaw42_ApplyValues_j22 apply_Value
  simp only [shl4 hP.1 hP.2]
  rw [wrap64 (n := T - 16 * P) (by omega) (by omega), wrap64 (n := 16 * P) (by omega) (by omega), wrap64 (n := T - 16 * P) (by omega) (by omega)]
  by_cases h0 : T - 16 * P < 0
  · simp only [h0, decide_true, if_true, Option.bind_some, hansomlaw42_ApplyValues_j29, awk]
    rfl
  simp only [h0, decide_false, Bool.false_eq_true, if_false]
  by_cases h1 : T - 16 * P ≥ 65536
  · have h2 : T - 16 * P > 65535 := by omega
    simp only [h1, h2, decide_true, if_true, Option.bind_some, hansomlaw42_ApplyValues_j29, awk]
    rfl
  have h2 : ¬ T - 16 * P > 65535 := by omega
  simp only [h1, h2, decide_false, Bool.false_eq_true, if_false]
  cases hsf : x.Self with
  | false =>
    have hw : IntKind.wrap .i64 (IntKind.wrap .u16 (T - 16 * P)) = T - 16 * P := by rw [wrapu16 (by omega) (by omega), wrap64 (by omega) (by omega)]
    have hw2 : IntKind.wrap .i64 (IntKind.wrap .u16 P) = Int.tmod P 65536 := by
      rw [wrapu16 (by omega) (by omega), wrap64 (by omega) (by omega), Int.tmod_eq_of_lt (by omega) (by omega)]
    simp only [hsf, Bool.not_false, if_true, Option.bind_some, hansomlaw42_ApplyValues_j29, awk, Bool.false_eq_true, if_false, hw, hw2, beq_self_eq_true]
  | true =>
    have e1 : IntKind.wrap .i64 (A + s) = A + s := wrap64 (by omega) (by omega)
    have e2 : IntKind.wrap .i64 (A + s - 16 * P) = A + s - 16 * P := wrap64 (by omega) (by omega)
    have e3 : IntKind.wrap .i64 (T - (A + s)) = T - (A + s) := wrap64 (by omega) (by omega)
    have e4 : IntKind.wrap .i64 (16 * P) = 16 * P := wrap64 (by omega) (by omega)
    simp only [hsf, Bool.not_true, Bool.false_eq_true, if_false, hs, hs', Option.bind_some, hansomlaw42_ApplyValues_j29, e1, e2, e3, e4, hansomlaw42_ApplyValues_j48, awk]
    by_cases hf : (fixed != tf) = true
    · simp only [hf, if_true, Option.bind_some]; rfl
    simp only [hf, if_false]
    by_cases k0 : A + s < 16 * P
    · have k1 : A + s - 16 * P < 0 := by omega
      simp only [k0, k1, decide_true, if_true, Option.bind_some]; rfl
    have k1 : ¬ A + s - 16 * P < 0 := by omega
    simp only [k0, k1, decide_false, if_false, Bool.false_eq_true]
    by_cases k2 : A + s - 16 * P > 65536
    · simp only [k2, decide_true, if_true, Option.bind_some]; rfl
    simp only [k2, decide_false, if_false, Bool.false_eq_true]
    by_cases k3 : (x.Loc == 0) = true
    · simp only [k3, if_true]
      by_cases k4 : T - (A + s) < -128
      · simp only [k4, decide_true, if_true, Option.bind_some]; rfl
      simp only [k4, decide_false, if_false, Bool.false_eq_true]
      by_cases k5 : T - (A + s) > 127
      · simp only [k5, decide_true, if_true, Option.bind_some]; rfl
      · simp only [k5, decide_false, if_false, Bool.false_eq_true, Option.bind_some, beq_self_eq_true, if_true]
    · simp only [k3, if_false, Bool.false_eq_true, Option.bind_some, beq_self_eq_true, if_true]

theorem j14_true (n : A4 Int) (x : Fixup) (T pt P : Int) (tf fixed : Bool) (hT : 0 ≤ T ∧ T < 1048576) (hP : 0 ≤ P ∧ P ≤ 65535) :
    hansomlaw42_ApplyValues_j14 n x ⟨T, pt, tf⟩ ⟨0, P, false⟩ fixed = some true := by
  unfold hansomlaw42_ApplyValues_j14
  have h9 : bitsOp .and .i64 n.a2 511 = n.a2 % 512 := and_mask' 9 (by omega) rfl
  have h20 : bitsOp .and .i64 n.a2 1048575 = n.a2 % 1048576 := and_mask' 20 (by omega) rfl
  rw [h9, h20]
  split
  · have e1 : IntKind.wrap .i64 (T - n.a2 % 512) = T - n.a2 % 512 := wrap64 (by omega) (by omega)
    have e2 : IntKind.wrap .i64 (T - n.a2 % 512 + 256) = T - n.a2 % 512 + 256 := wrap64 (by omega) (by omega)
    simp only [e1, e2, mxI_eq]
    exact j22_true x T pt P _ tf fixed hT hP (by omega)
  · exact j22_true x T pt P _ tf fixed hT hP (by omega)

theorem applyValues_true (f : Fixup) (n : A4 Int) (fixed : Bool) (w0 : f.wf) (w1 : n.wf (wfI .i64)) (w2 : True) : hansomlaw42_ApplyValues f n fixed = some true := by
  obtain ⟨x, hx, _⟩ := near_ok f
  unfold hansomlaw42_ApplyValues
  rw [hx, Option.bind_some]
  have h20 : bitsOp .and .i64 n.a0 1048575 = n.a0 % 1048576 := and_mask' 20 (by omega) rfl
  have h16 : bitsOp .and .i64 n.a1 65535 = n.a1 % 65536 := and_mask' 16 (by omega) rfl
  have h13 : bitsOp .and .i64 n.a1 8191 = n.a1 % 8192 := and_mask' 13 (by omega) rfl
  have hs : shrI .i64 (n.a0 % 1048576) 4 = n.a0 % 1048576 / 16 := shr_eq (j := 4) (by decide)
  simp only [h20, h16, h13, hs]
  split
  · exact j14_true n x _ _ _ _ fixed (by omega) (by omega)
  · rw [wrap64 (by omega) (by omega), mxI_eq]
    exact j14_true n x _ _ _ _ fixed (by omega) (by omega)
end Go.Es.Apv
