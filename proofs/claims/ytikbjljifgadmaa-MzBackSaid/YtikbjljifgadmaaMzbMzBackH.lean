/- The law MzBack in plain Lean. No condition. -/
import Derived.Test.YtikbjljifgadmaaMzbH
set_option linter.unusedVariables false
set_option linter.unusedSimpArgs false
set_option maxHeartbeats 1000000
set_option maxRecDepth 100000
namespace Go.Es.Mzb
theorem mzBack_true (x : Image) (more : List UInt8) (w0 : x.wf) (w1 : wfS more) : hansomlaw44_MzBack x more = some true := by
  obtain ⟨y, hy, h⟩ := near_ok x w0
  have b1 := h.bl; have b2 := h.rl
  have hh := hd_in (r := (y.Relocs.length : Int)) (by omega) (by omega)
  have hl : (ents y).length = y.Relocs.length := by unfold ents; rw [List.length_map]
  have hF := FB_length h (ents y) hl
  have ha : all_ y = hdI (y.Relocs.length : Int) + (y.Bytes.length : Int) := rfl
  unfold hansomlaw44_MzBack
  have hc := cut_min more 20
  rw [show ((20 : Nat) : Int) = 20 from rfl] at hc
  have hm : (more.take 20).length ≤ 20 := by rw [List.length_take]; omega
  rw [hy, Option.bind_some, ref_write h, Option.bind_some, write_ok h, Option.bind_some, hc, Option.bind_some, catS_eq (by rw [b2s_length]; omega), Option.bind_some, s2b_append, s2b_b2s (FB_wf h _), read_ok h (ents y) (ents_perm y) (ents_in h) _ (by rw [s2b_length]; omega), Option.bind_some,
    b2s_length, wrap64 (n := ((FB y (ents y)).length : Int) - 1) (by omega) (by omega), cutL_eq (by omega) (by omega) (by rw [b2s_length]; omega), Option.bind_some]
  have e1 : s2b (((b2s (FB y (ents y))).drop (0 : Int).toNat).take (((FB y (ents y)).length : Int) - 1).toNat) = (FB y (ents y)).take (((FB y (ents y)).length : Int) - 1).toNat := by
    rw [show (0 : Int).toNat = 0 from rfl, List.drop_zero, s2b_take, s2b_b2s (FB_wf h _)]
  have e2 : (FB y (ents y)).take (((FB y (ents y)).length : Int) - 1).toNat = HB y ++ (EB (ents y) ++ (PD y ++ y.Bytes)).take ((((FB y (ents y)).length : Int) - 1).toNat - 28) := by
    conv => lhs; unfold FB
    rw [List.take_append, HB_length, List.take_of_length_le (by rw [HB_length]; unfold FB at hF; omega)]
    rfl
  obtain ⟨z, hz⟩ := read_short h ((EB (ents y) ++ (PD y ++ y.Bytes)).take ((((FB y (ents y)).length : Int) - 1).toNat - 28)) (by
    rw [← e2, List.length_take]; omega)
  rw [← e2, ← e1] at hz
  have e3 : ((((FB y (ents y)).length : Int) - 1).toNat - (0 : Int).toNat) = (((FB y (ents y)).length : Int) - 1).toNat := by simp
  rw [e3, hz, Option.bind_some, may_ok h]
  have awk : hansomlaw44_awake = some true := rfl
  rw [awk]
  simp only [Option.bind_some, if_true, beq_self_eq_true, same_ok y h]
end Go.Es.Mzb
