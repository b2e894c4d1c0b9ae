/- A module's name, there and back: in plain Lean. No condition. -/
import Derived.Test.YtbogbgbpahonoaaNamH
set_option linter.unusedVariables false
set_option linter.unusedSimpArgs false
set_option maxHeartbeats 1000000
namespace Go.Es.Nam

theorem nn_spec (b : List Int) (hb : b.length ≤ 2 ^ 40) {n : List UInt8} {s : Source} (h : index_Source_Name ⟨b, 0⟩ = some (n, s)) :
    names_Name b = some (if s.e ≠ 0 then ([], s.e) else if s.b = [] then (n, 0) else ([], 3)) := by
  unfold names_Name
  rw [from_spec b hb, Option.bind_some, h, Option.bind_some]
  obtain ⟨sb, se⟩ := s
  simp only
  rw [end_spec, Option.bind_some]
  by_cases h1 : se = 0
  · by_cases h2 : sb = [] <;> simp [h1, h2]
  · simp [h1]

theorem namesHeader_true (s more : List UInt8) (hs : wfS s) (hm : wfS more) : hansomlaw20_NamesHeader s more = some true := by
  unfold hansomlaw20_NamesHeader
  rw [show (255 : Int) = ((255 : Nat) : Int) from rfl, cut_min, Option.bind_some]
  have ht : (s.take 255).length ≤ 255 := by rw [List.length_take]; omega
  generalize s.take 255 = t at ht
  unfold names_Header
  rw [name_spec t ht]
  simp only [Option.bind_some]
  have hl := enc_length t
  have hne : ¬ (((enc t).length : Int) == 0) = true := by rw [hl]; simp; omega
  rw [if_neg hne]
  have e1 := enc_name t ht []
  rw [List.append_nil] at e1
  have n1 : names_Name (enc t) = some (t, 0) := by rw [nn_spec _ (by omega) e1]; simp
  have n2 : names_Name (enc t ++ [120]) = some ([], 3) := by
    rw [nn_spec _ (by rw [List.length_append]; simp; omega) (enc_name t ht [120])]; simp
  have n3 : names_Name [] = some ([], 2) := by rw [nn_spec _ (by simp) name_nil]; simp
  rw [n1, Option.bind_some, grow_eq (by rw [hl]; simp; omega) (by rw [hl]; simp; omega), Option.bind_some, List.nil_append, grow_eq (by rw [hl]; simp; omega) (by rw [hl]; simp; omega), Option.bind_some, n2, Option.bind_some]
  by_cases h0 : t = []
  · subst h0
    have : cutL (enc []) 0 (mxI (IntKind.wrap .i64 (((enc []).length : Int) - mnI (([] : List UInt8).length : Int) 1)) 0) = some (enc []) := by rfl
    rw [this, Option.bind_some, n1]
    unfold hansomlaw20_NamesHeader_j28
    rw [n3, awake_true, ref_spec _ (by simp)]
    simp
  · have hp : 0 < t.length := by cases t with | nil => exact absurd rfl h0 | cons => simp
    have hk : mxI (IntKind.wrap .i64 (((enc t).length : Int) - mnI (t.length : Int) 1)) 0 = (t.length : Int) := by
      rw [hl, mnI_eq, mxI_eq, wrap64 (by omega) (by omega)]; omega
    rw [hk, cut_to _ (by omega), Option.bind_some]
    have n4 : names_Name ((enc t).take t.length) = some ([], 2) := by
      obtain ⟨k, hk⟩ : ∃ k, t.length = k + 1 := ⟨t.length - 1, by omega⟩
      have e2 : (enc t).take t.length = (t.length : Int) :: (s2b t).take k := by
        unfold enc
        conv => lhs; arg 1; rw [hk]
        rw [List.take_succ_cons]
      rw [e2]
      have hlen : ((s2b t).take k).length < (t.length : Int).toNat := by rw [List.length_take, s2b_length]; omega
      rw [nn_spec _ (by simp only [List.length_cons, List.length_take, s2b_length]; omega) (name_short _ _ (by omega) (by omega) hlen)]
      simp
    rw [n4]
    simp only [Option.bind_some]
    have hp' : decide ((t.length : Int) > 0) = true := by simp only [decide_eq_true_eq]; omega
    rw [if_pos hp']
    unfold hansomlaw20_NamesHeader_j28
    rw [n3, awake_true, ref_spec _ ht]
    simp
end Go.Es.Nam
