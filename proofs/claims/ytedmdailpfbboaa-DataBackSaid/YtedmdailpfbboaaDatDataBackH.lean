/- The law DataBack in plain Lean. No condition. -/
import Derived.Test.YtedmdailpfbboaaDatH
set_option linter.unusedVariables false
set_option linter.unusedSimpArgs false
set_option maxHeartbeats 1000000
namespace Go.Es.Dat
theorem back_j21 (s o : Int) (b : List Int) (h0 : 0 ≤ o) (h1 : o ≤ 65535) (hb : ∀ c ∈ b, wfI .u8 c) (hl : b.length ≤ 2000) : hansomlaw23_DataBack_j21 s o b (mayD s o b) = some true := by
  unfold hansomlaw23_DataBack_j21
  rw [put_spec s o b [] h0 h1, Option.bind_some, awake_true, Option.bind_some, may_spec s o b [] h0 h1, Option.bind_some]
  rcases hm : mayD s o b with _ | _
  · simp
  · have hi := (ix_len s).2
    have hw : ∀ c ∈ ix s ++ le o 2 ++ b, wfI .u8 c := by
      intro c hc
      rcases List.mem_append.1 hc with hc | hc
      · rcases List.mem_append.1 hc with hc | hc
        · exact ix_wf _ _ hc
        · exact le_wf _ _ _ hc
      · exact hb c hc
    have b2 : hansomref18_Bytes o 2 = _ := Bytes_spec (k := 2) (n := o) (by omega) (by omega) (by omega)
    have wu : IntKind.wrap .u64 o = o := by rw [wrap_u64']; omega
    simp only [if_true, Bool.not_true, Bool.false_eq_true, if_false, bne_self_eq_false]
    rw [get_spec _ hw (by simp [le_length]; omega), get_put s o b h0 h1 hm, ref_Index_spec, wu, b2]
    simp only [Option.bind_some]
    rw [catS_eq (by simp [b2s_length, le_length]; omega), Option.bind_some, catS_eq (by simp [b2s_length, le_length]; omega), Option.bind_some]
    simp [b2s_append]
theorem back_j17 (s o : Int) (b : List Int) (h0 : 0 ≤ o) (h1 : o ≤ 65535) (hb : ∀ c ∈ b, wfI .u8 c) (hl : b.length ≤ 2000) : hansomlaw23_DataBack_j17 s o b = some true := by
  have key := back_j21 s o b h0 h1 hb hl
  unfold hansomlaw23_DataBack_j17
  by_cases a1 : s ≥ 1
  · by_cases a2 : s ≤ 32767
    · by_cases a3 : (b.length : Int) ≥ 1
      · by_cases a4 : (b.length : Int) ≤ 1024
        · simp only [a1, a2, a3, a4, decide_true, if_true]
          rw [wrap64 (n := o) (by omega) (by omega), wrap64 (n := o + (b.length : Int)) (by omega) (by omega)]
          have : mayD s o b = decide (o + (b.length : Int) ≤ 65536) := by
            unfold mayD
            exact decide_eq_decide.2 (by omega)
          rw [← this]; exact key
        · simp only [a1, a2, a3, a4, decide_true, decide_false, Bool.false_eq_true, if_true, if_false]
          have : mayD s o b = false := by unfold mayD; exact decide_eq_false (by omega)
          rw [← this]; exact key
      · simp only [a1, a2, a3, decide_true, decide_false, Bool.false_eq_true, if_true, if_false]
        have : mayD s o b = false := by unfold mayD; exact decide_eq_false (by omega)
        rw [← this]; exact key
    · simp only [a1, a2, decide_true, decide_false, Bool.false_eq_true, if_true, if_false]
      have : mayD s o b = false := by unfold mayD; exact decide_eq_false (by omega)
      rw [← this]; exact key
  · simp only [a1, decide_false, Bool.false_eq_true, if_false]
    have : mayD s o b = false := by unfold mayD; exact decide_eq_false (by omega)
    rw [← this]; exact key
theorem dataBack_true (d : Data) (odd : Int) (w : Data.wf d) (w1 : wfI .i64 odd) : hansomlaw23_DataBack d odd = some true := by
  obtain ⟨s, o, b, f⟩ := d
  obtain ⟨ws, wo, wb, wf⟩ := w
  obtain ⟨h0, h1⟩ := wfI_u16.1 wo
  simp only at h0 h1 wb
  unfold hansomlaw23_DataBack
  have hz : ∀ c ∈ b.take 60, wfI .u8 c := fun c hc => wb.2 c (List.mem_of_mem_take hc)
  have hl : (b.take 60).length ≤ 2000 := by simp; omega
  rw [show (60 : Int) = ((60 : Nat) : Int) from rfl, cut_min, Option.bind_some]
  simp only
  split
  · exact back_j17 _ _ _ h0 h1 hz hl
  · split
    · have e : bitsOp .and .i64 (shrI .i64 odd 3) 7 = (shrI .i64 odd 3) % 8 := and_mask _ 3 (by omega)
      have m0 := Int.emod_nonneg (shrI .i64 odd 3) (show (8 : Int) ≠ 0 by decide)
      have m1 := Int.emod_lt_of_pos (shrI .i64 odd 3) (show (0 : Int) < 8 by decide)
      rw [e, wrap64 (by omega) (by omega), mk_eq (by omega) (by omega) (by omega), Option.bind_some]
      refine back_j17 _ _ _ h0 h1 (fun c hc => ?_) (by rw [List.length_replicate]; omega)
      rw [List.eq_of_mem_replicate hc]
      exact wfI_u8.2 ⟨by omega, by omega⟩
    · exact back_j17 _ _ _ h0 h1 hz hl
end Go.Es.Dat
