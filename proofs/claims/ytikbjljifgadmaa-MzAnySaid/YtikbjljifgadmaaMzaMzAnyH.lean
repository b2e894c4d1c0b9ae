/- The law MzAny in plain Lean. No condition. -/
import Derived.Test.YtikbjljifgadmaaMzaH
set_option linter.unusedVariables false
set_option linter.unusedSimpArgs false
set_option maxHeartbeats 4000000
set_option maxRecDepth 100000
namespace Go.Es.Mza
theorem set_wd {s : List Int} {k o : Nat} (v : Int) (h1 : k ≠ o) (h2 : k ≠ o + 1) : wd (s.set k v) o = wd s o := by
  unfold wd
  rw [List.getElem?_set_ne h1, List.getElem?_set_ne h2]
/-- the law in plain Lean -/
theorem mzAny_true (x : Image) (at_ : A2 Int) (by_ : List Int) (w0 : x.wf) (w1 : A2.wf (wfI .i64) at_) (w2 : wfL (wfI .u8) by_) : hansomlaw44_MzAny x at_ by_ = some true := by
  obtain ⟨y, hy, h, r6, b6⟩ := near_ok x w0
  have hh : hdI (y.Relocs.length : Int) ≤ 64 ∧ 32 ≤ hdI (y.Relocs.length : Int) := by unfold hdI; omega
  have hl : (ents y).length = y.Relocs.length := by unfold ents; rw [List.length_map]
  have hF := FB_length h (ents y) hl
  have ha : all_ y = hdI (y.Relocs.length : Int) + (y.Bytes.length : Int) := rfl
  have hFw := FB_wf h (ents y)
  unfold hansomlaw44_MzAny
  rw [hy, Option.bind_some, ref_write h, Option.bind_some, s2b_b2s hFw]
  have d6 : wd (FB y (ents y)) 6 = (y.Relocs.length : Int) := by
    have e : wd (FB y (ents y)) 6 = (y.Relocs.length : Int) % 256 + (y.Relocs.length : Int) / 256 % 256 * 256 := rfl
    rw [e]; omega
  have d8 : wd (FB y (ents y)) 8 = hdI (y.Relocs.length : Int) / 16 := by
    have e : wd (FB y (ents y)) 8 = (hdI (y.Relocs.length : Int) / 16) % 256 + (hdI (y.Relocs.length : Int) / 16) / 256 % 256 * 256 := rfl
    rw [e]; omega
  have d24 : wd (FB y (ents y)) 24 = 28 := rfl
  generalize FB y (ents y) = F at hF hFw d6 d8 d24
  have m8 : bitsOp .and .i64 at_.a0 255 = at_.a0 % 256 := and_mask' 8 (by omega) rfl
  rw [m8, mnI_eq]
  have hm : 0 < min (F.length : Int) 48 ∧ min (F.length : Int) 48 ≤ 48 ∧ min (F.length : Int) 48 ≤ (F.length : Int) := by omega
  generalize min (F.length : Int) 48 = m at hm
  have hr : remI .i64 (at_.a0 % 256) m = some ((at_.a0 % 256) % m) := by
    unfold remI
    rw [if_neg (by omega), Int.tmod_eq_emod_of_nonneg (by omega)]
  have hk : 0 ≤ (at_.a0 % 256) % m ∧ (at_.a0 % 256) % m < m := ⟨Int.emod_nonneg _ (by omega), Int.emod_lt_of_pos _ hm.1⟩
  generalize (at_.a0 % 256) % m = k at hr hk
  rw [hr, Option.bind_some]
  obtain ⟨v, hv, _⟩ := Tot.idx (l := F) (i := k) ⟨hk.1, by omega⟩
  rw [hv, Option.bind_some, Option.bind_some]
  by_cases c : (bitsOp .and .i64 (shrI .i64 at_.a1 8) 7 == 0) = true
  · rw [if_pos c]
    have hc := cut_min by_ 80
    rw [show ((80 : Nat) : Int) = 80 from rfl] at hc
    rw [hc, Option.bind_some]
    have hl80 : (by_.take 80).length ≤ 80 := by rw [List.length_take]; omega
    exact j14_true (fun c hc => w2.2 c (List.mem_of_mem_take hc)) (by omega) (.inl hl80)
  · rw [if_neg c]
    have hx : wfI .u8 (bitsOp .xor .u8 v (IntKind.wrap .u8 (IntKind.wrap .i64 ((Int.tmod (bitsOp .and .i64 at_.a1 255) 255) + 1)))) := by
      generalize IntKind.wrap .u8 (IntKind.wrap .i64 ((Int.tmod (bitsOp .and .i64 at_.a1 255) 255) + 1)) = z
      have e : bitsOp .xor .u8 v z = IntKind.wrap .u8 ((BitVec.ofInt 8 v ^^^ BitVec.ofInt 8 z).toNat : Int) := rfl
      rw [e, wrap_u8']
      exact wfI_u8.2 ⟨by omega, by omega⟩
    generalize bitsOp .xor .u8 v _ = z at hx
    refine j14_true (fun c hc => ?_) (by rw [List.length_set]; omega) (.inr ?_)
    · rcases List.mem_or_eq_of_mem_set hc with hc | hc
      · exact hFw c hc
      · rw [hc]; exact hx
    · by_cases c6 : k.toNat = 6 ∨ k.toNat = 7
      · right
        rw [set_wd z (by omega) (by omega), set_wd z (by omega) (by omega), d24, d8]
        exact ⟨rfl, by omega⟩
      · left
        rw [set_wd z (by omega) (by omega), d6]; omega
end Go.Es.Mza
