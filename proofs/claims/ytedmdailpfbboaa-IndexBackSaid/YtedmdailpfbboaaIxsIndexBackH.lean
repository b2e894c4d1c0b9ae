/- The law IndexBack in plain Lean. No condition. -/
import Derived.Test.YtedmdailpfbboaaIxsH
set_option linter.unusedVariables false
set_option linter.unusedSimpArgs false
set_option maxHeartbeats 1000000
set_option maxRecDepth 100000
namespace Go.Es.Ixs
theorem and_u32 {z : Int} (h0 : 0 ≤ z) (h1 : z ≤ 4294967295) : bitsOp .and .u32 z 32767 = z % 32768 := by
  have e : bitsOp .and .u32 z 32767 = IntKind.wrap .u32 (((BitVec.ofInt 32 z &&& BitVec.ofInt 32 32767).toNat : Nat) : Int) := rfl
  have e1 : (BitVec.ofInt 32 32767).toNat = 2 ^ 15 - 1 := rfl
  have e2 : (BitVec.ofInt 32 z).toNat = z.toNat := by rw [BitVec.toNat_ofInt]; omega
  rw [e, BitVec.toNat_and, e1, e2, Nat.and_two_pow_sub_one_eq_mod, wrap_u32']
  omega
def item (t : List UInt8) (z : Int) : List Int := ix (z % 32768) ++ (lg z ++ (le z 4 ++ enc t))
def items (t : List UInt8) (l : List Int) : List Int := l.flatMap (item t)
theorem lg_len (n : Int) : (lg n).length ≤ 5 := by unfold lg; repeat' split
                                                   all_goals simp [le]
theorem item_len (t : List UInt8) (ht : t.length ≤ 255) (z : Int) : (item t z).length ≤ 267 := by
  have h1 := ix_len (z % 32768); have h2 := lg_len z
  simp only [item, List.length_append, le_length, enc_length]; omega
theorem items_len (t : List UInt8) (ht : t.length ≤ 255) : ∀ l : List Int, (items t l).length ≤ 267 * l.length
  | [] => by simp [items]
  | z :: l => by
    have h1 := item_len t ht z; have h2 := items_len t ht l
    simp only [items, List.flatMap_cons, List.length_append, List.length_cons] at *
    omega
theorem lg_wf (n : Int) : ∀ c ∈ lg n, wfI .u8 c := by
  intro c hc
  unfold lg at hc
  split at hc
  · exact le_wf _ _ c hc
  · split at hc
    · rcases List.mem_cons.1 hc with rfl | hc
      · exact wfI_u8.2 ⟨by omega, by omega⟩
      · exact le_wf _ _ c hc
    · split at hc
      · rcases List.mem_cons.1 hc with rfl | hc
        · exact wfI_u8.2 ⟨by omega, by omega⟩
        · exact le_wf _ _ c hc
      · rcases List.mem_cons.1 hc with rfl | hc
        · exact wfI_u8.2 ⟨by omega, by omega⟩
        · exact le_wf _ _ c hc
theorem item_wf (t : List UInt8) (ht : t.length ≤ 255) (z : Int) : ∀ c ∈ item t z, wfI .u8 c := by
  intro c hc
  simp only [item, List.mem_append] at hc
  rcases hc with hc | hc | hc | hc
  · exact ix_wf _ c hc
  · exact lg_wf _ c hc
  · exact le_wf _ _ c hc
  · exact enc_wf t ht c hc
theorem items_wf (t : List UInt8) (ht : t.length ≤ 255) (l : List Int) : ∀ c ∈ items t l, wfI .u8 c := by
  intro c hc
  obtain ⟨z, _, hz⟩ := List.mem_flatMap.1 hc
  exact item_wf t ht z c hz
theorem step1 (l : List Int) (t : List UInt8) (b : List UInt8) (i : Nat) (ht : t.length ≤ 255) (hi : i < l.length) (h12 : i < 12) (hw : wfI .u32 l[i]) (hb : b.length ≤ 4000) :
    hansomlaw19_IndexBack_l8 l t b (i : Int) = some (.next (b ++ b2s (item t l[i]), ((i + 1 : Nat) : Int))) := by
  unfold hansomlaw19_IndexBack_l8
  obtain ⟨z0, z1⟩ := wfI_u32.1 hw
  have hx := ix_len (l[i] % 32768); have hg := lg_len l[i]
  have hwu : IntKind.wrap .u64 l[i] = l[i] := by rw [wrap_u64']; omega
  have hB : hansomref18_Bytes l[i] 4 = some (b2s (le l[i] 4)) := Bytes_spec (k := 4) z0 (by omega) (by omega)
  simp only [show (i : Int) < (l.length : Int) from by omega, show (i : Int) < 12 from by omega, decide_true, if_true, idx_nat hi, Option.bind_some, and_u32 z0 z1, ref_Index_spec, ref_Long_spec z0 z1, hwu, hB, ref_spec t ht, wrap64 (n := l[i] % 32768) (by omega) (by omega)]
  rw [catS_eq (by simp only [b2s_length]; omega), Option.bind_some, catS_eq (by simp only [List.length_append, b2s_length, le_length]; omega), Option.bind_some, catS_eq (by simp only [List.length_append, b2s_length, le_length, enc_length]; omega), Option.bind_some, catS_eq (by simp only [List.length_append, b2s_length, le_length, enc_length]; omega), Option.bind_some, wrap64 (by omega) (by omega)]
  simp only [item, b2s_append, List.append_assoc]
  rfl
theorem loop1 (l : List Int) (t : List UInt8) (ht : t.length ≤ 255) (hw : ∀ z ∈ l, wfI .u32 z) : loopO (fun x : List UInt8 × Int => hansomlaw19_IndexBack_l8 l t x.1 x.2) ([], 0) = some (b2s (items t (l.take 12))) := by
  refine loop_to (f := fun x : List UInt8 × Int => hansomlaw19_IndexBack_l8 l t x.1 x.2) (fun _ => b2s (items t (l.take 12))) (fun x => ∃ i : Nat, x.2 = i ∧ i ≤ l.length ∧ i ≤ 12 ∧ x.1 = b2s (items t (l.take i))) (fun x => (12 - x.2).toNat) (fun x hx => ?_) ⟨0, rfl, by omega, by omega, by simp [items, b2s]⟩
  obtain ⟨b, j⟩ := x
  obtain ⟨i, rfl, hi, h12, hb⟩ := hx
  simp only at hb ⊢
  subst hb
  by_cases hlt : i < l.length ∧ i < 12
  · left
    have hl := items_len t ht (l.take i)
    rw [List.length_take] at hl
    refine ⟨_, step1 l t _ i ht hlt.1 hlt.2 (hw _ (List.getElem_mem _)) (by rw [b2s_length]; omega), ⟨i + 1, rfl, by omega, by omega, ?_⟩, by simp only; omega, trivial⟩
    simp only
    rw [List.take_succ_eq_append_getElem hlt.1]
    simp only [items, List.flatMap_append, List.flatMap_cons, List.flatMap_nil, List.append_nil, b2s_append]
  · right
    have e : l.take i = l.take 12 := by
      by_cases h : i = 12
      · rw [h]
      · rw [List.take_of_length_le (by omega), List.take_of_length_le (by omega)]
    unfold hansomlaw19_IndexBack_l8
    rw [← e]
    by_cases h : i < l.length
    · have h2 : ¬ (i : Int) < 12 := by omega
      simp [h, h2]
    · have h2 : ¬ (i : Int) < (l.length : Int) := by omega
      simp [h2]
theorem step2 (l : List Int) (t : List UInt8) (r : List Int) (i : Nat) (ht : t.length ≤ 255) (hi : i < l.length) (h12 : i < 12) (hw : wfI .u32 l[i]) (hr : ∀ c ∈ r, wfI .u8 c) :
    hansomlaw19_IndexBack_l25 ⟨item t l[i] ++ r, 0⟩ l t (i : Int) = some (.next (⟨r, 0⟩, ((i + 1 : Nat) : Int))) := by
  unfold hansomlaw19_IndexBack_l25
  obtain ⟨z0, z1⟩ := wfI_u32.1 hw
  have hrest : ∀ c ∈ lg l[i] ++ (le l[i] 4 ++ (enc t ++ r)), wfI .u8 c := by
    intro c hc
    simp only [List.mem_append] at hc
    rcases hc with hc | hc | hc | hc
    · exact lg_wf _ c hc
    · exact le_wf _ _ c hc
    · exact enc_wf t ht c hc
    · exact hr c hc
  have ea : item t l[i] ++ r = ix (l[i] % 32768) ++ (lg l[i] ++ (le l[i] 4 ++ (enc t ++ r))) := by simp [item]
  have h1 : index_Source_Index ⟨item t l[i] ++ r, 0⟩ = some (l[i] % 32768, ⟨lg l[i] ++ (le l[i] 4 ++ (enc t ++ r)), 0⟩) := by rw [ea]; exact index_ix (by omega) (by omega) _ hrest
  simp only [show (i : Int) < (l.length : Int) from by omega, show (i : Int) < 12 from by omega, decide_true, if_true, h1, Option.bind_some, long_lg z0 z1, number_le z0 z1, idx_nat hi, and_u32 z0 z1, wrap64 (n := l[i] % 32768) (by omega) (by omega), bne_self_eq_false, Bool.false_eq_true, if_false, enc_name t ht, wrap64 (n := (i : Int) + 1) (by omega) (by omega)]
  rfl
theorem loop2 (l : List Int) (t : List UInt8) (ht : t.length ≤ 255) (hw : ∀ z ∈ l, wfI .u32 z) : loopO (fun x : Source × Int => hansomlaw19_IndexBack_l25 x.1 l t x.2) (⟨items t (l.take 12), 0⟩, 0) = some (.inr ⟨[], 0⟩) := by
  refine loop_to (f := fun x : Source × Int => hansomlaw19_IndexBack_l25 x.1 l t x.2) (fun _ => (.inr ⟨[], 0⟩ : Bool ⊕ Source)) (fun x => ∃ i : Nat, x.2 = i ∧ i ≤ l.length ∧ i ≤ 12 ∧ x.1 = ⟨items t ((l.take 12).drop i), 0⟩) (fun x => (12 - x.2).toNat) (fun x hx => ?_) ⟨0, rfl, by omega, by omega, by simp⟩
  obtain ⟨b, j⟩ := x
  obtain ⟨i, rfl, hi, h12, hb⟩ := hx
  simp only at hb ⊢
  subst hb
  by_cases hlt : i < l.length ∧ i < 12
  · left
    have hd : (l.take 12).drop i = l[i] :: (l.take 12).drop (i + 1) := by
      rw [List.drop_eq_getElem_cons (by rw [List.length_take]; omega)]
      simp
    refine ⟨(⟨items t ((l.take 12).drop (i + 1)), 0⟩, ((i + 1 : Nat) : Int)), ?_, ⟨i + 1, rfl, by omega, by omega, rfl⟩, by simp only; omega, trivial⟩
    rw [hd]
    have : items t (l[i] :: (l.take 12).drop (i + 1)) = item t l[i] ++ items t ((l.take 12).drop (i + 1)) := by simp [items]
    rw [this]
    exact step2 l t _ i ht hlt.1 hlt.2 (hw _ (List.getElem_mem _)) (items_wf t ht _)
  · right
    have e : (l.take 12).drop i = [] := List.drop_of_length_le (by rw [List.length_take]; omega)
    unfold hansomlaw19_IndexBack_l25
    rw [e]
    by_cases h : i < l.length
    · have h2 : ¬ (i : Int) < 12 := by omega
      simp [h, h2, items]
    · have h2 : ¬ (i : Int) < (l.length : Int) := by omega
      simp [h2, items]
theorem indexBack_true (l : List Int) (s : List UInt8) (wl : wfL (wfI .u32) l) (ws : wfS s) : hansomlaw19_IndexBack l s = some true := by
  unfold hansomlaw19_IndexBack
  have e255 : cutL s 0 (mnI (s.length : Int) 255) = some (s.take 255) := cut_min s 255
  have ht : (s.take 255).length ≤ 255 := by simp; omega
  rw [e255, Option.bind_some, loop1 l _ ht wl.2, Option.bind_some, s2b_b2s (items_wf _ ht _), from_spec _ (by
    have := items_len _ ht (l.take 12)
    rw [List.length_take] at this
    omega), Option.bind_some, loop2 l _ ht wl.2, Option.bind_some]
  simp only [awake_true, Option.bind_some, if_true, index_Source_Left, end_spec]
  simp only [List.length_nil, Int.natCast_zero, beq_self_eq_true, if_true, true_or, Option.bind_some]
  rw [byte_nil]
  rfl
end Go.Es.Ixs
