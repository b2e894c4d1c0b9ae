/- Remarks, there and back: in plain Lean. No condition. -/
import Derived.Test.YtbogbgbpahonoaaNamH
set_option linter.unusedVariables false
set_option linter.unusedSimpArgs false
set_option maxHeartbeats 1000000
namespace Go.Es.Nam

theorem comment_spec (c0 c1 : Int) (r : List Int) (h : r.length + 2 ≤ 2 ^ 40) : names_Comment (c0 :: c1 :: r) = some (⟨c0, c1, b2s r⟩, 0) := by
  unfold names_Comment index_Source_Left index_Source_Err
  rw [from_spec _ (by simpa using h)]
  simp only [Option.bind_some, byte_cons]
  rw [take_ok _ (by omega) (by simp only; omega)]
  simp
theorem comment_short (b : List Int) (h : b.length < 2) : names_Comment b = some (⟨0, 0, []⟩, 2) := by
  unfold names_Comment index_Source_Left index_Source_Err
  rw [from_spec _ (by omega)]
  match b, h with
  | [], _ =>
    simp only [Option.bind_some, byte_nil, byte_end 2 (by decide)]
    rw [take_ok _ (by simp) (by simp)]
    simp
  | [c], _ =>
    simp only [Option.bind_some, byte_cons, byte_nil]
    rw [take_ok _ (by simp) (by simp)]
    simp

theorem namesRemark_true (c : Comment) (b : List Int) (hc : c.wf) (hb : wfL (wfI .u8) b) : hansomlaw20_NamesRemark c b = some true := by
  unfold hansomlaw20_NamesRemark
  rw [show (100 : Int) = ((100 : Nat) : Int) from rfl, show (30 : Int) = ((30 : Nat) : Int) from rfl, cut_min, cut_min, Option.bind_some]
  have ht : (c.Text.take 100).length ≤ 100 := by rw [List.length_take]; omega
  generalize hg : c.Text.take 100 = t at ht
  have hx : (b.take 30).length ≤ 30 := by rw [List.length_take]; omega
  have hx2 : (b.take 30).length < 2 ↔ b.length < 2 := by rw [List.length_take]; omega
  have rem : ∀ (f cl : Int) (u : List UInt8), u.length ≤ 100 → names_Remark ⟨f, cl, u⟩ = some ⟨136, f :: cl :: s2b u⟩ := by
    intro f cl u hu
    unfold names_Remark
    rw [grow_eq (by simp [s2b]; omega) (by simp [s2b]; omega)]; rfl
  rw [rem _ _ _ ht, Option.bind_some]
  simp only
  rw [comment_spec _ _ _ (by rw [s2b_length]; omega), Option.bind_some, Option.bind_some]
  by_cases h2 : b.length < 2
  · have hd : decide ((b.length : Int) < 2) = true := by simp only [decide_eq_true_eq]; omega
    rw [comment_short _ (hx2.2 h2), Option.bind_some, if_pos hd]
    unfold hansomlaw20_NamesRemark_j20
    simp only
    rw [awake_true, catS_eq (by simp [b2s]; omega)]
    simp [b2s_cons, b2s_s2b]
    rfl
  · have hd : ¬ decide ((b.length : Int) < 2) = true := by simp only [decide_eq_true_eq]; omega
    have h2' : ¬ (b.take 30).length < 2 := fun h => h2 (hx2.1 h)
    generalize hb' : b.take 30 = y at hx h2'
    match y, hx, h2', hb' with
    | [], _, h2', _ => exact absurd (by simp) h2'
    | [_], _, h2', _ => exact absurd (by simp) h2'
    | c0 :: c1 :: r, hx, _, hb' =>
      have hr : r.length + 2 ≤ 30 := by simpa using hx
      rw [comment_spec _ _ _ (by omega), Option.bind_some, if_neg hd]
      unfold hansomlaw20_NamesRemark_j20
      simp only
      rw [awake_true, catS_eq (by simp [b2s]; omega), rem _ _ _ (by rw [b2s_length]; omega), show (30 : Int) = ((30 : Nat) : Int) from rfl, cut_min, hb']
      simp [b2s_cons, b2s_s2b]
      rfl
end Go.Es.Nam
