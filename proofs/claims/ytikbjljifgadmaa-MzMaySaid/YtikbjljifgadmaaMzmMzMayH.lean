/- The law MzMay in plain Lean. No condition. -/
import Derived.Test.YtikbjljifgadmaaMzmH
set_option linter.unusedVariables false
set_option linter.unusedSimpArgs false
set_option maxHeartbeats 1000000
set_option maxRecDepth 100000
namespace Go.Es.Mzm
theorem awk : hansomlaw44_awake = some true := rfl
theorem j57_true (y : Image) {a b want : Int} (t : Bool) (hR : y.Relocs = [a, b]) (hk : y.Bytes.length ≤ 604) (hm : mz_May y = some t) (hw : want = if t then 0 else 1) : hansomlaw44_MzMay_j57 y want = some true := by
  unfold hansomlaw44_MzMay_j57
  cases t with
  | true =>
    obtain ⟨l, h1, h2⟩ := write_ok y hR hk hm
    subst hw
    simp only [h1, awk, hm, Option.bind_some, if_true, beq_self_eq_true]
    have : decide ((l.length : Int) > 0) = true := by simp only [decide_eq_true_eq]; omega
    rw [this]; rfl
  | false =>
    have h1 : mz_Write y = some (([] : List Int), 1) := by
      unfold mz_Write; rw [hm, Option.bind_some]; rfl
    subst hw
    simp only [h1, awk, hm, Option.bind_some]
    rfl
theorem tm7 (k : Int) : 0 ≤ Int.tmod (bitsOp .and .i64 k 15) 7 ∧ Int.tmod (bitsOp .and .i64 k 15) 7 < 7 := by
  have h : bitsOp .and .i64 k 15 = k % 16 := and_mask' 4 (by omega) rfl
  rw [h]
  exact ⟨Int.tmod_nonneg _ (by omega), Int.tmod_lt_of_pos _ (by omega)⟩
theorem mzMay_true (x : Image) (kind n : Int) (w0 : x.wf) (w1 : wfI .i64 kind) (w2 : wfI .i64 n) : hansomlaw44_MzMay x kind n = some true := by
  obtain ⟨y, hy, h600, m0, m1⟩ := near_ok x w0.1.1 w0.2.1.1
  unfold hansomlaw44_MzMay
  have hg : grow 1 y.Bytes ([1, 2, 3, 4] : List Int) = some (y.Bytes ++ [1, 2, 3, 4]) := grow_eq (by simp only [List.length_cons, List.length_nil]; omega) (by simp only [List.length_cons, List.length_nil]; omega)
  rw [hy, Option.bind_some, hg, Option.bind_some]
  have hk4 : 4 ≤ (y.Bytes ++ [1, 2, 3, 4] : List Int).length := by simp
  have hk6 : (y.Bytes ++ [1, 2, 3, 4] : List Int).length ≤ 604 := by simp; omega
  generalize (y.Bytes ++ [1, 2, 3, 4] : List Int) = B at hk4 hk6
  have e4 : IntKind.wrap .i64 ((B.length : Int) - 4) = (B.length : Int) - 4 := wrap64 (by omega) (by omega)
  have e2 : IntKind.wrap .i64 ((B.length : Int) - 2) = (B.length : Int) - 2 := wrap64 (by omega) (by omega)
  have e1 : IntKind.wrap .i64 ((B.length : Int) - 1) = (B.length : Int) - 1 := wrap64 (by omega) (by omega)
  have e3 : IntKind.wrap .i64 ((B.length : Int) - 3) = (B.length : Int) - 3 := wrap64 (by omega) (by omega)
  have hn : bitsOp .and .i64 n 255 = n % 256 := and_mask' 8 (by omega) rfl
  have hn1 : bitsOp .and .i64 n 1 = n % 2 := and_mask' 1 (by omega) rfl
  have en : IntKind.wrap .i64 (-1 - n % 256) = -1 - n % 256 := wrap64 (by omega) (by omega)
  have ep : IntKind.wrap .i64 ((B.length : Int) + 15) = (B.length : Int) + 15 := wrap64 (by omega) (by omega)
  have et : Int.tdiv ((B.length : Int) + 15) 16 = ((B.length : Int) + 15) / 16 := Int.tdiv_eq_ediv_of_nonneg (by omega)
  have eq1 : IntKind.wrap .i64 (((B.length : Int) + 15) / 16) = ((B.length : Int) + 15) / 16 := wrap64 (by omega) (by omega)
  have eq2 : IntKind.wrap .i64 (40960 - ((B.length : Int) + 15) / 16) = 40960 - ((B.length : Int) + 15) / 16 := wrap64 (by omega) (by omega)
  have eq3 : IntKind.wrap .i64 (40960 - ((B.length : Int) + 15) / 16 + n % 2) = 40960 - ((B.length : Int) + 15) / 16 + n % 2 := wrap64 (by omega) (by omega)
  have i1 : ∀ a b : Int, idx ([a, b] : List Int) 1 = some b := fun a b => rfl
  have i0 : ∀ a b : Int, idx ([a, b] : List Int) 0 = some a := fun a b => rfl
  have s1 : ∀ a b c : Int, List.set ([a, b] : List Int) (1 : Int).toNat c = [a, c] := fun a b c => rfl
  have s0 : ∀ a b c : Int, List.set ([a, b] : List Int) (0 : Int).toNat c = [c, b] := fun a b c => rfl
  have hc := tm7 kind
  generalize Int.tmod (bitsOp .and .i64 kind 15) 7 = c at hc
  simp only [e4, e2, e1, e3, hn, hn1, en, ep, et, eq1, eq2, eq3, i0, i1, s0, s1, Option.bind_some]
  have key : ∀ (z : Image) (a b want : Int) (t : Bool), z.Relocs = [a, b] → z.Bytes = B → (-300 ≤ a ∧ a ≤ 700) → (-300 ≤ b ∧ b ≤ 700) → (-300 ≤ z.Min ∧ z.Min ≤ 50000) →
      (t = true ↔ (0 ≤ z.Min ∧ z.Min ≤ 40960 - (((B.length : Int) - 1) / 16 + 1) ∧ 0 ≤ a ∧ a ≤ (B.length : Int) - 2 ∧ 0 ≤ b ∧ b ≤ (B.length : Int) - 2 ∧ 2 ≤ b - a)) → (want = if t then 0 else 1) → hansomlaw44_MzMay_j57 z want = some true := by
    intro z a b want t hR hB ha hb hm ht hw
    refine j57_true z t hR (by rw [hB]; exact hk6) ?_ hw
    rw [may_eq z hR (by rw [hB]; exact hk4) (by rw [hB]; exact hk6) ha hb hm, hB, Option.some.injEq]
    cases t with
    | true => exact decide_eq_true (ht.1 rfl)
    | false => exact decide_eq_false (fun h => Bool.noConfusion (ht.2 h))
  have c7 : c = 0 ∨ c = 1 ∨ c = 2 ∨ c = 3 ∨ c = 4 ∨ c = 5 ∨ c = 6 := by omega
  rcases c7 with rfl | rfl | rfl | rfl | rfl | rfl | rfl
  · rw [if_pos (by decide)]
    exact key _ _ _ _ false rfl rfl (by omega) (by omega) (by simp only; omega) (by simp only [Bool.false_eq_true, false_iff]; omega) rfl
  · rw [if_neg (by decide), if_pos (by decide)]
    exact key _ _ _ _ false rfl rfl (by omega) (by omega) (by simp only; omega) (by simp only [Bool.false_eq_true, false_iff]; omega) rfl
  · rw [if_neg (by decide), if_neg (by decide), if_pos (by decide)]
    exact key _ _ _ _ false rfl rfl (by omega) (by omega) (by simp only; omega) (by simp only [Bool.false_eq_true, false_iff]; omega) rfl
  · rw [if_neg (by decide), if_neg (by decide), if_neg (by decide), if_pos (by decide)]
    exact key _ _ _ _ false rfl rfl (by omega) (by omega) (by simp only; omega) (by simp only [Bool.false_eq_true, false_iff]; omega) rfl
  · rw [if_neg (by decide), if_neg (by decide), if_neg (by decide), if_neg (by decide), if_pos (by decide)]
    exact key _ _ _ _ false rfl rfl (by omega) (by omega) (by simp only; omega) (by simp only [Bool.false_eq_true, false_iff]; omega) rfl
  · rw [if_neg (by decide), if_neg (by decide), if_neg (by decide), if_neg (by decide), if_neg (by decide), if_pos (by decide)]
    by_cases hp : n % 2 = 1
    · rw [if_pos (by simpa using hp)]
      exact key _ _ _ _ false rfl rfl (by omega) (by omega) (by simp only; omega) (by simp only [Bool.false_eq_true, false_iff]; omega) rfl
    · rw [if_neg (by simpa using hp)]
      exact key _ _ _ _ true rfl rfl (by omega) (by omega) (by simp only; omega) (by simp only [true_iff]; omega) rfl
  · rw [if_neg (by decide), if_neg (by decide), if_neg (by decide), if_neg (by decide), if_neg (by decide), if_neg (by decide)]
    exact key _ _ _ _ true rfl rfl (by omega) (by omega) (by simp only; omega) (by simp only [true_iff]; omega) rfl
end Go.Es.Mzm
