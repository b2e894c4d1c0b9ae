/- The law IndexShort in plain Lean. No condition. -/
import Derived.Test.YtedmdailpfbboaaIxsH
set_option linter.unusedVariables false
set_option linter.unusedSimpArgs false
set_option maxHeartbeats 1000000
set_option maxRecDepth 100000
namespace Go.Es.Ixs
theorem short34 (b : List Int) (k e : Int) (h : (b = [] ∧ e = 0) ∨ (b ≠ [] ∧ e = 3)) : hansomlaw19_IndexShort_j34 ⟨b, 0⟩ k e = some true := by
  unfold hansomlaw19_IndexShort_j34
  have hk : bitsOp .and .i64 k 1 = k % 2 := and_mask k 1 (by omega)
  have hc : IntKind.wrap .u8 (IntKind.wrap .i64 (133 + IntKind.wrap .i64 (k % 2 * 4))) = 133 ∨ IntKind.wrap .u8 (IntKind.wrap .i64 (133 + IntKind.wrap .i64 (k % 2 * 4))) = 137 := by
    rcases (by omega : k % 2 = 0 ∨ k % 2 = 1) with h | h <;> rw [h]
    · exact .inl rfl
    · exact .inr rfl
  rw [hk]
  generalize IntKind.wrap .u8 (IntKind.wrap .i64 (133 + IntKind.wrap .i64 (k % 2 * 4))) = c at hc
  rw [from_spec _ (by simp), Option.bind_some, long_bad c _ hc, Option.bind_some]
  have n1 : index_Source_Wrong_nil 3 = some () := rfl
  have n2 : index_Source_Byte_nil = some 0 := rfl
  have n3 : index_Source_End_nil = some 1 := rfl
  simp only [n1, n2, n3, index_Source_Err_nil, index_Source_Left_nil, index_Source_Take_nil, index_Source_Err, Option.bind_some, awake_true, if_true, end_spec]
  rcases h with ⟨rfl, rfl⟩ | ⟨hb, rfl⟩
  · simp
  · simp [hb]
theorem indexShort_true (b : List Int) (n k : Int) (wb : wfL (wfI .u8) b) (wn : wfI .i64 n) (wk : wfI .i64 k) : hansomlaw19_IndexShort b n k = some true := by
  unfold hansomlaw19_IndexShort
  have e20 : cutL b 0 (mnI (b.length : Int) 20) = some (b.take 20) := cut_min b 20
  rw [e20, Option.bind_some, from_spec _ (by simp; omega), Option.bind_some]
  generalize hy : b.take 20 = y
  have hl : y.length ≤ 20 := by rw [← hy]; simp; omega
  have word2 : index_Source_Word ⟨[], 2⟩ = some (0, ⟨[], 2⟩) := word_end
  have bad : ∀ t31 : Bool, t31 = true → hansomlaw19_IndexShort_j11 ⟨[], 2⟩ n k y [] t31 = some true := by
    intro t ht
    subst ht
    unfold hansomlaw19_IndexShort_j11
    have hw : index_Source_Wrong ⟨[], 2⟩ 3 = some ⟨[], 2⟩ := rfl
    have hn : index_Source_Name ⟨[], 2⟩ = some ([], ⟨[], 2⟩) := by
      unfold index_Source_Name
      rw [byte_end 2 (by decide), Option.bind_some, wrap64 (by omega) (by omega)]
      rw [take_ok _ (by omega) (by simp), Option.bind_some]; rfl
    simp only [if_true, hw, Option.bind_some, awake_true, index_Source_Err, index_Source_Left, word2, index_end, hn, long_end 2 (by decide), end_spec]
    rfl
  by_cases h0 : n < 0
  · simp only [h0, decide_true, if_true]
    rw [take_short y (.inl h0), Option.bind_some]
    exact bad true rfl
  · simp only [h0, decide_false, Bool.false_eq_true, if_false]
    by_cases h1 : n > (y.length : Int)
    · rw [take_short y (.inr h1), Option.bind_some]
      exact bad _ (by simp [h1])
    · rw [take_ok ⟨y, 0⟩ (by omega) (by simp only; omega), Option.bind_some]
      unfold hansomlaw19_IndexShort_j11
      simp only [h1, decide_false, Bool.false_eq_true, if_false]
      rw [cutL_eq (by omega) (by omega) (by omega), Option.bind_some]
      simp only [Int.toNat_zero, List.drop_zero, Nat.sub_zero, bne_self_eq_false, Bool.false_eq_true, if_false, index_Source_Left, Option.bind_some, index_Source_Err]
      have hlen : ((List.drop n.toNat y).length : Int) = (y.length : Int) - n := by rw [List.length_drop]; omega
      rw [hlen, wrap64 (by omega) (by omega)]
      simp only [bne_self_eq_false, Bool.false_eq_true, if_false]
      by_cases h2 : n < (y.length : Int)
      · simp only [h2, decide_true, if_true]
        exact short34 _ k 3 (.inr ⟨fun h => by have := congrArg List.length h; rw [List.length_drop] at this; simp at this; omega, rfl⟩)
      · simp only [h2, decide_false, Bool.false_eq_true, if_false]
        exact short34 _ k 0 (.inl ⟨List.drop_of_length_le (by omega), rfl⟩)
end Go.Es.Ixs
