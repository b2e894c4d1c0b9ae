/- The law ScanBack in plain Lean. No condition. -/
import Derived.Test.YtncfbghdnnhfiaaScnH
set_option linter.unusedVariables false
set_option linter.unusedSimpArgs false
set_option maxHeartbeats 4000000
set_option maxRecDepth 100000
namespace Go.Es.Scn
theorem scanBack_true (x : Inst) (more : List UInt8) (wx : Inst.wf x) (wm : wfS more) : hansomlaw07_ScanBack x more = some true := by
 obtain ⟨i, h1, hi, hm⟩ := near_spec x (okI_wf wx)
 have hlen := lenI_lo i hm
 unfold hansomlaw07_ScanBack
 rw [h1, Option.bind_some, refPut i hi hm, Option.bind_some]
 rw [grow_eq (by simp only [List.length_nil]; omega) (by simp only [List.length_nil]; omega), Option.bind_some, List.nil_append]
 have hmin : 0 ≤ mnI (more.length : Int) 9 ∧ mnI (more.length : Int) 9 ≤ (more.length : Int) ∧ mnI (more.length : Int) 9 ≤ 9 := by rw [mnI_eq]; omega
 rw [cutL_eq (by omega) hmin.1 hmin.2.1, Option.bind_some]
 have hz : ((more.drop (0 : Int).toNat).take ((mnI (more.length : Int) 9).toNat - (0 : Int).toNat)).length ≤ 9 := by
  rw [List.length_take]; omega
 generalize (more.drop (0 : Int).toNat).take ((mnI (more.length : Int) 9).toNat - (0 : Int).toNat) = z at hz
 have hs : (s2b z).length = z.length := by simp [s2b]
 rw [grow_eq (by omega) (by omega), Option.bind_some]
 have hby : By (putL i ++ s2b z) := by
  intro y hy
  rcases List.mem_append.1 hy with hy | hy
  ·exact putL_by i hi hm y hy
  ·exact By.map z y hy
 rw [get_spec _ (by rw [List.length_append]; omega) hby, take_put i _ hi hm, Option.bind_some]
 obtain ⟨l, y, hl⟩ : ∃ l y, putL i = l ++ [y] := by
  rcases List.eq_nil_or_concat (putL i) with h | ⟨l, y, h⟩
  ·rw [h] at hlen; simp at hlen
  ·exact ⟨l, y, by simpa using h⟩
 have hcut : cutL (putL i) 0 (IntKind.wrap .i64 (((putL i).length : Int) - 1)) = some l := by
  rw [wrap64 (by omega) (by omega), cutL_eq (by omega) (by omega) (by omega), hl]
  simp
 rw [hcut, Option.bind_some]
 have hbl : By l := fun z hz => putL_by i hi hm z (by rw [hl]; exact List.mem_append_left _ hz)
 have hll : l.length + 1 = (putL i).length := by rw [hl]; simp
 rw [get_spec l (by omega) hbl, take_short i l y hi hm hl, Option.bind_some, awake7, Option.bind_some]
 have e : (putL i ++ s2b z).length - (s2b z).length = (putL i).length := by rw [List.length_append]; omega
 simp [e]
end Go.Es.Scn
