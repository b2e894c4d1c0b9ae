/- The law InstNear in plain Lean. No condition. -/
import Derived.Test.YtncfbghdnnhfiaaInsInstMayH
set_option linter.unusedVariables false
set_option linter.unusedSimpArgs false
set_option maxHeartbeats 4000000
set_option maxRecDepth 100000
namespace Go.Es.Ins
theorem ahead10 (i : Inst) (n : Int) (h0 : 0 ≤ n) (h1 : n ≤ 10) : inst_Ahead_j10 i n = some (n + pb (decide (i.Rep > 0)) + pb (decide (i.Seg > 0))) := by
  unfold inst_Ahead_j10
  rw [wrap64 (n := n + 1) (by omega) (by omega), wrap64 (n := n + 1 + 1) (by omega) (by omega)]
  cases decide (i.Rep > 0) <;> cases decide (i.Seg > 0) <;> simp [pb]
theorem ahead_spec (i : Inst) : inst_Ahead i = some (pb i.Lock + pb (decide (i.Rep > 0)) + pb (decide (i.Seg > 0))) := by
  unfold inst_Ahead
  rw [show IntKind.wrap .i64 (0 + 1) = 1 from rfl, ahead10 _ 1 (by omega) (by omega), ahead10 _ 0 (by omega) (by omega)]
  cases i.Lock <;> simp [pb]
theorem instNear_true (x : Inst) (wx : Inst.wf x) : hansomlaw05_InstNear x = some true := by
  obtain ⟨y, h1, hy, hm⟩ := near_spec x (okI_wf wx)
  obtain ⟨f1, f2, f3, f4, f5⟩ := mayB_facts y hm
  have hf := row_facts y.Op y.Reg f1
  unfold hansomlaw05_InstNear
  rw [h1, Option.bind_some, instLen y hy, Option.bind_some, awake_true, Option.bind_some, instMay y hy, instTail y hy, ahead_spec, hm]
  have b1 := bytI_lo (rowI y.Op y.Reg).1.A; have b2 := bytI_lo (rowI y.Op y.Reg).1.B
  have p1 := pb_lo y.Lock; have p2 := pb_lo (decide (y.Rep > 0)); have p3 := pb_lo (decide (y.Seg > 0)); have hd := dispI_lo y.Mod y.RM
  have hrep : pb (decide (y.Rep > 0)) = 1 → bytI (rowI y.Op y.Reg).1.A + bytI (rowI y.Op y.Reg).1.B = 0 ∧ (rowI y.Op y.Reg).1.Mod = false := by
    intro h
    have : y.Rep > 0 := by
      cases hr : decide (y.Rep > 0) with
      | true => simpa using hr
      | false => rw [hr] at h; simp [pb] at h
    exact hf.2.2 (f4 this)
  have l1 : lenI y ≥ 1 ∧ lenI y ≤ 9 ∧ pb y.Lock + pb (decide (y.Rep > 0)) + pb (decide (y.Seg > 0)) < lenI y - (bytI (rowI y.Op y.Reg).1.A + bytI (rowI y.Op y.Reg).1.B) + 1 := by
    unfold lenI
    cases hmod : (rowI y.Op y.Reg).1.Mod with
    | false => simp only [Bool.false_eq_true, if_false]; rw [hmod] at hf hrep; omega
    | true =>
      rw [hmod] at hf hrep
      simp only [if_true]
      rcases p2 with hp | hp
      · rcases hf.2.1 with h | h | h | h
        · omega
        · omega
        · omega
        · exact absurd h.2 (by simp)
      · exact absurd (hrep hp).2 (by simp)
  simp only [if_true, Option.bind_some, l1.1, l1.2.1, decide_true]
  have l2 : lenI y - (bytI (rowI y.Op y.Reg).1.A + bytI (rowI y.Op y.Reg).1.B) ≤ lenI y := by omega
  simp only [l2, decide_true, if_true]
  rw [wrap64 (by omega) (by omega)]
  simp only [l1.2.2, decide_true]
end Go.Es.Ins
