/- The law PubsMade in plain Lean. No condition. -/
import Derived.Test.YtikbjljifgadmaaPmdH
set_option linter.unusedVariables false
set_option linter.unusedSimpArgs false
set_option maxHeartbeats 1000000
set_option maxRecDepth 100000
namespace Go.Es.Pmd
def item (e : Ext) : List Int := enc e.Name ++ (0 :: (if e.Com = 97 then 97 :: (lg e.Len ++ [1]) else 98 :: lg e.Len))
def okE (e : Ext) : Prop := e.Name.length ≤ 40 ∧ (e.Com = 97 ∨ e.Com = 98) ∧ 0 ≤ e.Len ∧ e.Len ≤ 1048576
theorem lg_len (n : Int) : (lg n).length ≤ 5 := by unfold lg; repeat' split
                                                   all_goals simp [le]
theorem lg_wf (n : Int) : ∀ c ∈ lg n, wfI .u8 c := by
  intro c hc
  unfold lg at hc
  split at hc
  · exact le_wf _ _ c hc
  · split at hc
    · rcases List.mem_cons.1 hc with rfl | hc
      · exact wfI_u8.2 ⟨by omega, by omega⟩
      · exact le_wf _ _ c hc
    · split at hc
      · rcases List.mem_cons.1 hc with rfl | hc
        · exact wfI_u8.2 ⟨by omega, by omega⟩
        · exact le_wf _ _ c hc
      · rcases List.mem_cons.1 hc with rfl | hc
        · exact wfI_u8.2 ⟨by omega, by omega⟩
        · exact le_wf _ _ c hc
theorem item_len {e : Ext} (h : okE e) : (item e).length ≤ 60 := by
  have := lg_len e.Len; have := h.1
  unfold item
  rw [List.length_append, enc_length, List.length_cons]
  split <;> simp <;> omega
theorem items_len (l : List Ext) (h : ∀ e ∈ l, okE e) : (l.flatMap item).length ≤ 60 * l.length := by
  induction l with
  | nil => simp
  | cons e r ih =>
    have h1 := item_len (h e (by simp)); have h2 := ih fun x hx => h x (by simp [hx])
    simp only [List.flatMap_cons, List.length_append, List.length_cons]; omega
theorem item_wf {e : Ext} (h : okE e) : ∀ c ∈ item e, wfI .u8 c := by
  intro c hc
  unfold item at hc
  rcases List.mem_append.1 hc with hc | hc
  · exact enc_wf _ (by have := h.1; omega) c hc
  · rcases List.mem_cons.1 hc with rfl | hc
    · exact wfI_u8.2 ⟨by omega, by omega⟩
    · split at hc
      · rcases List.mem_cons.1 hc with rfl | hc
        · exact wfI_u8.2 ⟨by omega, by omega⟩
        · rcases List.mem_append.1 hc with hc | hc
          · exact lg_wf _ c hc
          · simp only [List.mem_singleton] at hc; subst hc; exact wfI_u8.2 ⟨by omega, by omega⟩
      · rcases List.mem_cons.1 hc with rfl | hc
        · exact wfI_u8.2 ⟨by omega, by omega⟩
        · exact lg_wf _ c hc
theorem items_wf (l : List Ext) (h : ∀ e ∈ l, okE e) : ∀ c ∈ l.flatMap item, wfI .u8 c := by
  intro c hc
  obtain ⟨e, he, hc⟩ := List.mem_flatMap.1 hc
  exact item_wf (h e he) c hc
theorem take_succ' {l : List Ext} {i : Nat} (h : i < l.length) : (l.take (i + 1)).flatMap item = (l.take i).flatMap item ++ item l[i] := by
  rw [List.take_succ_eq_append_getElem h, List.flatMap_append]; simp only [List.flatMap_cons, List.flatMap_nil, List.append_nil]
theorem communal_spec (l : List Ext) (hl : l.length ≤ 100) (h : ∀ e ∈ l, okE e) : pubs_Communal l = some ⟨176, l.flatMap item⟩ := by
  unfold pubs_Communal
  rw [loop_to (f := fun x : Record × Int => pubs_Communal_l8 x.1 0 l (l.length : Int) x.2) (fun _ => (⟨176, l.flatMap item⟩ : Record)) (fun x => ∃ i : Nat, x = (⟨176, (l.take i).flatMap item⟩, (i : Int)) ∧ i ≤ l.length) (fun x => (l.length - x.2).toNat) (fun x hx => ?_) ⟨0, by simp, by omega⟩]
  · rfl
  · obtain ⟨i, rfl, hi⟩ := hx
    simp only
    unfold pubs_Communal_l8
    by_cases hlt : i < l.length
    · left
      have ok := h _ (List.getElem_mem hlt)
      have hb := items_len (l.take i) fun e he => h e (List.mem_of_mem_take he)
      rw [List.length_take] at hb
      have hlg := lg_len l[i].Len
      have hn := ok.1
      simp only [show (i : Int) < (l.length : Int) from by omega, decide_true, if_true, idx_nat hlt, Option.bind_some, name_any l[i].Name (by omega), index_Long_spec ok.2.2.1 (by have := ok.2.2.2; omega)]
      rw [grow_eq (by rw [enc_length]; omega) (by rw [enc_length]; omega), Option.bind_some, grow_eq (by simp only [List.length_append, enc_length, List.length_cons, List.length_nil]; omega) (by simp only [List.length_append, enc_length, List.length_cons, List.length_nil]; omega), Option.bind_some]
      have w : IntKind.wrap .i64 ((i : Int) + 1) = ((i + 1 : Nat) : Int) := by rw [wrap64 (by omega) (by omega)]; omega
      refine ⟨(⟨176, (l.take (i + 1)).flatMap item⟩, ((i + 1 : Nat) : Int)), ?_, ⟨i + 1, rfl, by omega⟩, by simp only; omega, trivial⟩
      rw [w, take_succ' hlt]
      generalize (l.take i).flatMap item = B at hb ⊢
      unfold item
      by_cases hc : l[i].Com = 97
      · simp only [hc, beq_self_eq_true, if_true]
        rw [grow_eq (by simp only [List.length_append, enc_length, List.length_cons, List.length_nil]; omega) (by simp only [List.length_append, enc_length, List.length_cons, List.length_nil]; omega), Option.bind_some,
          grow_eq (by simp only [List.length_append, enc_length, List.length_cons, List.length_nil]; omega) (by simp only [List.length_append, enc_length, List.length_cons, List.length_nil]; omega), Option.bind_some,
          grow_eq (by simp only [List.length_append, enc_length, List.length_cons, List.length_nil]; omega) (by simp only [List.length_append, enc_length, List.length_cons, List.length_nil]; omega), Option.bind_some]
        simp only [List.append_assoc, List.cons_append, List.nil_append]
      · have hc' : (l[i].Com == 97) = false := by simpa using hc
        simp only [hc', Bool.false_eq_true, if_false, hc]
        rw [grow_eq (by simp only [List.length_append, enc_length, List.length_cons, List.length_nil]; omega) (by simp only [List.length_append, enc_length, List.length_cons, List.length_nil]; omega), Option.bind_some,
          grow_eq (by simp only [List.length_append, enc_length, List.length_cons, List.length_nil]; omega) (by simp only [List.length_append, enc_length, List.length_cons, List.length_nil]; omega), Option.bind_some]
        simp only [List.append_assoc, List.cons_append, List.nil_append]
    · right
      have : i = l.length := by omega
      subst this
      simp
theorem ref_communal (l : List Ext) (hl : l.length ≤ 100) (h : ∀ e ∈ l, okE e) : hansomref21_Communal l = some (b2s (l.flatMap item)) := by
  unfold hansomref21_Communal
  rw [loop_to (f := fun x : List UInt8 × Int => hansomref21_Communal_l8 l x.1 x.2) (fun _ => b2s (l.flatMap item)) (fun x => ∃ i : Nat, x = (b2s ((l.take i).flatMap item), (i : Int)) ∧ i ≤ l.length) (fun x => (l.length - x.2).toNat) (fun x hx => ?_) ⟨0, by simp [b2s], by omega⟩]
  · rfl
  · obtain ⟨i, rfl, hi⟩ := hx
    simp only
    unfold hansomref21_Communal_l8
    by_cases hlt : i < l.length
    · left
      have ok := h _ (List.getElem_mem hlt)
      have hb := items_len (l.take i) fun e he => h e (List.mem_of_mem_take he)
      rw [List.length_take] at hb
      have hlg := lg_len l[i].Len
      have hn := ok.1
      simp only [show (i : Int) < (l.length : Int) from by omega, decide_true, if_true, idx_nat hlt, Option.bind_some, ref_spec l[i].Name (by omega), ref_Long_spec ok.2.2.1 (by have := ok.2.2.2; omega)]
      rw [catS_eq (by simp only [b2s_length, enc_length, List.length_cons, List.length_nil]; omega), Option.bind_some, catS_eq (by simp only [List.length_append, b2s_length, enc_length, List.length_cons, List.length_nil]; omega), Option.bind_some]
      have w : IntKind.wrap .i64 ((i : Int) + 1) = ((i + 1 : Nat) : Int) := by rw [wrap64 (by omega) (by omega)]; omega
      refine ⟨(b2s ((l.take (i + 1)).flatMap item), ((i + 1 : Nat) : Int)), ?_, ⟨i + 1, rfl, by omega⟩, by simp only; omega, trivial⟩
      rw [w, take_succ' hlt]
      generalize (l.take i).flatMap item = B at hb ⊢
      unfold item
      by_cases hc : l[i].Com = 97
      · simp only [hc, beq_self_eq_true, if_true]
        rw [catS_eq (by simp only [b2s_length, List.length_cons, List.length_nil]; omega), Option.bind_some, catS_eq (by simp only [List.length_append, b2s_length, List.length_cons, List.length_nil]; omega), Option.bind_some,
          catS_eq (by simp only [List.length_append, b2s_length, enc_length, List.length_cons, List.length_nil]; omega), Option.bind_some]
        simp only [b2s_append, b2s_cons, List.append_assoc, List.cons_append, List.nil_append]
        rfl
      · have hc' : (l[i].Com == 97) = false := by simpa using hc
        simp only [hc', Bool.false_eq_true, if_false, hc]
        rw [catS_eq (by simp only [b2s_length, List.length_cons, List.length_nil]; omega), Option.bind_some,
          catS_eq (by simp only [List.length_append, b2s_length, enc_length, List.length_cons, List.length_nil]; omega), Option.bind_some]
        simp only [b2s_append, b2s_cons, List.append_assoc, List.cons_append, List.nil_append]
        rfl
    · right
      have : i = l.length := by omega
      subst this
      simp
noncomputable def gm (x : Source × List Ext) : Option (List Ext × Source) := loopO (fun x : Source × List Ext => pubs_Made_l8 x.1 x.2) x
theorem gm_end (e : Int) (out : List Ext) : gm (⟨[], e⟩, out) = some (out, ⟨[], e⟩) := by
  unfold gm
  rw [loopO_eq]
  simp [pubs_Made_l8, index_Source_Left]
theorem wrap64u {n : Int} (h0 : 0 ≤ n) (h1 : n ≤ 1000000000000) : IntKind.wrap .u64 n = n := by rw [wrap_u64']; omega
/-- a far one: so many of so many bytes -/
theorem gm_far (s : List UInt8) (a b : Int) (t : List Int) (out : List Ext) (hs : s.length ≤ 255) (ha : 0 ≤ a ∧ a ≤ 1048576) (hb : 0 ≤ b ∧ b ≤ 200000) (ht : ∀ c ∈ t, wfI .u8 c) (ho : out.length ≤ 1000) :
    gm (⟨enc s ++ (0 :: 97 :: (lg a ++ (lg b ++ t))), 0⟩, out) = if a * b ≤ 1048576 then gm (⟨t, 0⟩, out ++ [⟨s, 97, a * b⟩]) else some (out ++ [⟨s, 97, IntKind.wrap .u32 (a * b)⟩], ⟨[], 8⟩) := by
  have hab : 0 ≤ a * b := Int.mul_nonneg ha.1 hb.1
  have hab2 : a * b ≤ 1048576 * 200000 := Int.mul_le_mul ha.2 hb.2 hb.1 (by omega)
  unfold gm
  rw [loopO_eq]
  have hidx : index_Source_Index ⟨0 :: 97 :: (lg a ++ (lg b ++ t)), 0⟩ = some (0, ⟨97 :: (lg a ++ (lg b ++ t)), 0⟩) := index_one 0 _ 0 (by omega) (by omega)
  have hlen : ¬ (((enc s ++ (0 :: 97 :: (lg a ++ (lg b ++ t)))).length : Nat) : Int) ≤ 0 := by simp [enc]; omega
  have w97 : IntKind.wrap .i64 97 = 97 := rfl
  simp only [pubs_Made_l8, index_Source_Left, Option.bind_some, show (((enc s ++ (0 :: 97 :: (lg a ++ (lg b ++ t)))).length : Nat) : Int) > 0 from by omega, decide_true, if_true, enc_name s hs, hidx, byte_cons, long_lg ha.1 (show a ≤ 4294967295 by omega), long_lg hb.1 (show b ≤ 4294967295 by omega), w97, beq_self_eq_true, wrap64u ha.1 (by omega), wrap64u hb.1 (by omega), wrap64u hab (by omega)]
  rw [grow_eq (by simp; omega) (by simp; omega)]
  by_cases hc : a * b ≤ 1048576
  · have hw32 : IntKind.wrap .u32 (a * b) = a * b := by rw [wrap_u32']; omega
    simp only [show ¬ a * b > 1048576 from by omega, decide_false, Bool.false_eq_true, if_false, Option.bind_some, hc, if_true, hw32]
  · have hwr : index_Source_Wrong ⟨t, 0⟩ 8 = some ⟨[], 8⟩ := rfl
    simp only [show a * b > 1048576 from by omega, decide_true, if_true, hwr, Option.bind_some, hc, if_false]
    have := gm_end 8 (out ++ [⟨s, 97, IntKind.wrap .u32 (a * b)⟩])
    unfold gm at this
    simp only [pubs_Made_l8, index_Source_Left, Option.bind_some] at this
    exact this
theorem gm_near (s : List UInt8) (a : Int) (t : List Int) (out : List Ext) (hs : s.length ≤ 255) (ha : 0 ≤ a ∧ a ≤ 1048576) (ho : out.length ≤ 1000) :
    gm (⟨enc s ++ (0 :: 98 :: (lg a ++ t)), 0⟩, out) = gm (⟨t, 0⟩, out ++ [⟨s, 98, a⟩]) := by
  unfold gm
  rw [loopO_eq]
  have hidx : index_Source_Index ⟨0 :: 98 :: (lg a ++ t), 0⟩ = some (0, ⟨98 :: (lg a ++ t), 0⟩) := index_one 0 _ 0 (by omega) (by omega)
  have hlen : ¬ (((enc s ++ (0 :: 98 :: (lg a ++ t))).length : Nat) : Int) ≤ 0 := by simp [enc]; omega
  have w98 : IntKind.wrap .i64 98 = 98 := rfl
  have hw32 : IntKind.wrap .u32 a = a := by rw [wrap_u32']; omega
  simp only [pubs_Made_l8, index_Source_Left, Option.bind_some, show (((enc s ++ (0 :: 98 :: (lg a ++ t))).length : Nat) : Int) > 0 from by omega, decide_true, if_true, enc_name s hs, hidx, byte_cons, long_lg ha.1 (show a ≤ 4294967295 by omega), w98, show ((98 : Int) == 97) = false from rfl, Bool.false_eq_true, if_false, beq_self_eq_true, wrap64u ha.1 (by omega), hw32, show ¬ a > 1048576 from by omega, decide_false]
  rw [grow_eq (by simp; omega) (by simp; omega)]
  rfl
theorem gm_item (e : Ext) (t : List Int) (out : List Ext) (h : okE e) (ht : ∀ c ∈ t, wfI .u8 c) (ho : out.length ≤ 1000) : gm (⟨item e ++ t, 0⟩, out) = gm (⟨t, 0⟩, out ++ [e]) := by
  obtain ⟨h1, h2, h3, h4⟩ := h
  unfold item
  rcases h2 with h2 | h2
  · rw [if_pos h2]
    have e1 : enc e.Name ++ (0 :: (97 :: (lg e.Len ++ [1]))) ++ t = enc e.Name ++ (0 :: 97 :: (lg e.Len ++ (lg 1 ++ t))) := by
      have : lg 1 = [1] := rfl
      rw [this]; simp
    rw [e1, gm_far e.Name e.Len 1 t out (by omega) ⟨h3, h4⟩ (by omega) ht ho, if_pos (by omega), Int.mul_one]
    rw [← h2]
  · rw [if_neg (by omega)]
    have e1 : enc e.Name ++ (0 :: (98 :: lg e.Len)) ++ t = enc e.Name ++ (0 :: 98 :: (lg e.Len ++ t)) := by simp
    rw [e1, gm_near e.Name e.Len t out (by omega) ⟨h3, h4⟩ ho]
    rw [← h2]
theorem gm_items : ∀ (l : List Ext) (t : List Int) (out : List Ext), (∀ e ∈ l, okE e) → (∀ c ∈ t, wfI .u8 c) → out.length + l.length ≤ 1000 → gm (⟨l.flatMap item ++ t, 0⟩, out) = gm (⟨t, 0⟩, out ++ l)
  | [], t, out, _, _, _ => by simp
  | e :: l, t, out, h, ht, ho => by
    simp only [List.length_cons] at ho
    rw [List.flatMap_cons, List.append_assoc, gm_item e _ out (h e (by simp)) (fun c hc => by
      rcases List.mem_append.1 hc with hc | hc
      · exact items_wf l (fun x hx => h x (by simp [hx])) c hc
      · exact ht c hc) (by omega), gm_items l t (out ++ [e]) (fun x hx => h x (by simp [hx])) ht (by simp; omega)]
    simp
theorem made_spec (b : List Int) (out : List Ext) (s : Source) (hb : b.length ≤ 2 ^ 40) (h : gm (⟨b, 0⟩, []) = some (out, s)) : pubs_Made b = some (if s.e = 0 then (out, 0) else ([], s.e)) := by
  unfold pubs_Made
  rw [from_spec b hb, Option.bind_some]
  unfold gm at h
  rw [h, Option.bind_some]
  simp only [index_Source_Err, Option.bind_some]
  by_cases he : s.e = 0
  · simp [he]
  · simp [he]
theorem and_mask32 {x : Int} (j : Nat) (hj : j ≤ 31) (h0 : 0 ≤ x) (h1 : x ≤ 4294967295) : bitsOp .and .u32 x ((2 ^ j - 1 : Nat) : Int) = x % (2 ^ j : Nat) := by
  have hp : 2 ^ j ≤ 2 ^ 31 := Nat.pow_le_pow_right (by omega) hj
  have hpos : 0 < 2 ^ j := Nat.two_pow_pos j
  have e : bitsOp .and .u32 x ((2 ^ j - 1 : Nat) : Int) = IntKind.wrap .u32 (((BitVec.ofInt 32 x &&& BitVec.ofInt 32 ((2 ^ j - 1 : Nat) : Int)).toNat : Nat) : Int) := rfl
  have e1 : (BitVec.ofInt 32 ((2 ^ j - 1 : Nat) : Int)).toNat = 2 ^ j - 1 := by rw [BitVec.toNat_ofInt]; omega
  have e2 : (BitVec.ofInt 32 x).toNat = x.toNat := by rw [BitVec.toNat_ofInt]; omega
  rw [e, BitVec.toNat_and, e1, e2, Nat.and_two_pow_sub_one_eq_mod, wrap_u32']
  have h4 : x.toNat % 2 ^ j < 2 ^ j := Nat.mod_lt _ hpos
  have h5 : ((x.toNat % 2 ^ j : Nat) : Int) = x % (2 ^ j : Nat) := by rw [Int.natCast_emod, Int.toNat_of_nonneg h0]
  omega
def mkE (e : Ext) : Ext := ⟨e.Name.take 40, 97 + e.Com % 2, e.Len % 2097152 % 1048577⟩
theorem mkE_ok (e : Ext) : okE (mkE e) := by
  unfold okE mkE
  simp only [List.length_take]
  omega
theorem xs_spec (l : List Ext) (more : Int) (hw : ∀ e ∈ l, Ext.wf e) : loopO (fun x : List Ext × Int => hansomlaw22_PubsMade_l8 x.1 l more x.2) ([], 0) = some ((l.take 8).map mkE) := by
  refine loop_to (f := fun x : List Ext × Int => hansomlaw22_PubsMade_l8 x.1 l more x.2) (fun _ => (l.take 8).map mkE) (fun x => ∃ i : Nat, x = ((l.take i).map mkE, (i : Int)) ∧ i ≤ l.length ∧ i ≤ 8) (fun x => (8 - x.2).toNat) (fun x hx => ?_) ⟨0, by simp, by omega, by omega⟩
  obtain ⟨i, rfl, hi, h8⟩ := hx
  simp only
  unfold hansomlaw22_PubsMade_l8
  by_cases hlt : i < l.length
  · by_cases hlt8 : i < 8
    · left
      have hl := wfI_u32.1 (hw _ (List.getElem_mem hlt)).2.2
      have a1 : bitsOp .and .i64 l[i].Com 1 = l[i].Com % 2 := and_mask _ 1 (by omega)
      have a2 : bitsOp .and .u32 l[i].Len 2097151 = l[i].Len % 2097152 := and_mask32 21 (by omega) hl.1 hl.2
      have w1 : IntKind.wrap .i64 (97 + l[i].Com % 2) = 97 + l[i].Com % 2 := wrap64 (by omega) (by omega)
      have hc : cutL l[i].Name 0 (mnI (l[i].Name.length : Int) 40) = some (l[i].Name.take 40) := cut_min _ 40
      have ht : Int.tmod (l[i].Len % 2097152) 1048577 = l[i].Len % 2097152 % 1048577 := Int.tmod_eq_emod_of_nonneg (by omega)
      have hme : (⟨l[i].Name.take 40, 97 + l[i].Com % 2, l[i].Len % 2097152 % 1048577⟩ : Ext) = mkE l[i] := rfl
      simp only [show (i : Int) < (l.length : Int) from by omega, show (i : Int) < 8 from by omega, decide_true, if_true, idx_nat hlt, Option.bind_some, hc, a1, a2, w1, ht, hme]
      rw [grow_eq (by simp; omega) (by simp; omega), Option.bind_some, wrap64 (by omega) (by omega)]
      refine ⟨_, rfl, ⟨i + 1, ?_, by omega, by omega⟩, by simp only; omega, trivial⟩
      rw [List.take_succ_eq_append_getElem hlt, List.map_append]; rfl
    · right
      have : i = 8 := by omega
      subst this
      simp only [show ((8 : Nat) : Int) < (l.length : Int) from by omega, decide_true, if_true]
      rfl
  · right
    have : l.take i = l.take 8 := by rw [List.take_of_length_le (by omega), List.take_of_length_le (by omega)]
    simp only [show ¬ (i : Int) < (l.length : Int) from by omega, decide_false, Bool.false_eq_true, if_false, this]
theorem same_spec (r : Record) (xs : List Ext) (more : Int) (hl : xs.length ≤ 100) : loopO (fun x : Int => hansomlaw22_PubsMade_l37 r xs more xs x) 0 = some (.inr ()) := by
  refine loop_to (f := fun x : Int => hansomlaw22_PubsMade_l37 r xs more xs x) (fun _ => (.inr () : Bool ⊕ Unit)) (fun x => ∃ i : Nat, x = (i : Int) ∧ i ≤ xs.length) (fun x => (xs.length - x).toNat) (fun x hx => ?_) (x := (0 : Int)) ⟨0, rfl, by omega⟩
  obtain ⟨i, rfl, hi⟩ := hx
  unfold hansomlaw22_PubsMade_l37
  by_cases hlt : i < xs.length
  · left
    simp only [show (i : Int) < (xs.length : Int) from by omega, decide_true, if_true, idx_nat hlt, Option.bind_some, beq_self_eq_true, Bool.and_self, Bool.not_true, Bool.false_eq_true, if_false]
    exact ⟨_, rfl, ⟨i + 1, by rw [wrap64 (by omega) (by omega)]; omega, by omega⟩, by rw [wrap64 (by omega) (by omega)]; omega, trivial⟩
  · right
    have : i = xs.length := by omega
    subst this
    simp
theorem pubsMade_true (l : List Ext) (more : Int) (wl : wfL Ext.wf l) (wm : wfI .u32 more) : hansomlaw22_PubsMade l more = some true := by
  unfold hansomlaw22_PubsMade
  rw [xs_spec l more wl.2, Option.bind_some]
  have hx : ∀ e ∈ (l.take 8).map mkE, okE e := fun e he => by
    obtain ⟨q, _, rfl⟩ := List.mem_map.1 he
    exact mkE_ok q
  have h8 : ((l.take 8).map mkE).length ≤ 8 := by simp; omega
  generalize (l.take 8).map mkE = xs at hx h8
  have hlen := items_len xs hx
  have hwf := items_wf xs hx
  have hg : gm (⟨xs.flatMap item, 0⟩, []) = some (xs, ⟨[], 0⟩) := by
    have := gm_items xs [] [] hx (by simp) (by simp; omega)
    rw [List.append_nil, gm_end] at this
    rw [this]; rfl
  have hm := wfI_u32.1 wm
  have am : bitsOp .and .u32 more 65535 = more % 65536 := and_mask32 16 (by omega) hm.1 hm.2
  have wA : hansomref18_Name [65] = some (b2s (enc [65])) := ref_spec [65] (by simp)
  have l1 := ref_Long_spec (n := 1024) (by omega) (by omega)
  have l2 := ref_Long_spec (n := 1025 + more % 65536) (by omega) (by omega)
  have w32 : IntKind.wrap .u32 (1025 + more % 65536) = 1025 + more % 65536 := by rw [wrap_u32']; omega
  have lg1 := lg_len 1024; have lg2 := lg_len (1025 + more % 65536)
  rw [communal_spec xs (by omega) hx, Option.bind_some, made_spec _ xs ⟨[], 0⟩ (by omega) hg, Option.bind_some, ref_communal xs (by omega) hx, Option.bind_some]
  simp only [bne_self_eq_false, Bool.false_eq_true, if_false, if_true, same_spec _ xs more (by omega), Option.bind_some, wA, l1, am, w32, l2]
  rw [catS_eq (by simp [b2s, enc, s2b]), Option.bind_some, catS_eq (by simp only [List.length_append, b2s_length, enc_length, List.length_cons, List.length_nil]; omega), Option.bind_some, catS_eq (by simp only [List.length_append, b2s_length, enc_length, List.length_cons, List.length_nil]; omega), Option.bind_some,
    grow_eq (by rw [List.length_nil]; omega) (by rw [List.length_nil]; omega), Option.bind_some, List.nil_append]
  have eg : s2b (b2s (enc [65]) ++ [0, 97] ++ b2s (lg 1024) ++ b2s (lg (1025 + more % 65536))) = enc [65] ++ (0 :: 97 :: (lg 1024 ++ (lg (1025 + more % 65536) ++ []))) := by
    rw [s2b_append, s2b_append, s2b_append, s2b_b2s (enc_wf [65] (by simp)), s2b_b2s (lg_wf _), s2b_b2s (lg_wf _)]
    simp [s2b]
  rw [eg]
  have hgreat : gm (⟨xs.flatMap item ++ (enc [65] ++ (0 :: 97 :: (lg 1024 ++ (lg (1025 + more % 65536) ++ [])))), 0⟩, []) = some (xs ++ [⟨[65], 97, IntKind.wrap .u32 (1024 * (1025 + more % 65536))⟩], ⟨[], 8⟩) := by
    rw [gm_items xs _ [] hx (fun c hc => by
      rcases List.mem_append.1 hc with hc | hc
      · exact enc_wf [65] (by simp) c hc
      · simp only [List.mem_cons, List.mem_append, List.not_mem_nil, or_false] at hc
        rcases hc with rfl | rfl | hc | hc
        · exact wfI_u8.2 ⟨by omega, by omega⟩
        · exact wfI_u8.2 ⟨by omega, by omega⟩
        · exact lg_wf _ c hc
        · exact lg_wf _ c hc) (by simp; omega), gm_far [65] 1024 (1025 + more % 65536) [] _ (by simp) (by omega) (by omega) (by simp) (by simp; omega), if_neg (by omega)]
    rfl
  have hgl : (enc [65] ++ (0 :: 97 :: (lg 1024 ++ (lg (1025 + more % 65536) ++ [])))).length ≤ 100 := by simp [enc, s2b]; omega
  rw [grow_eq (by omega) (by omega), Option.bind_some, made_spec _ _ _ (by rw [List.length_append]; omega) hgreat, Option.bind_some, catS_eq (by simp [b2s, enc, s2b]), Option.bind_some]
  have e3 : s2b (b2s (enc [65]) ++ [0, 99, 1]) = enc [65] ++ [0, 99, 1] := by
    rw [s2b_append, s2b_b2s (enc_wf [65] (by simp))]; rfl
  have hbad : gm (⟨enc [65] ++ [0, 99, 1], 0⟩, []) = some ([⟨[65], 99, 1⟩], ⟨[], 3⟩) := by
    unfold gm
    rw [loopO_eq]
    have hi : index_Source_Index ⟨[0, 99, 1], 0⟩ = some (0, ⟨[99, 1], 0⟩) := index_one 0 _ 0 (by omega) (by omega)
    have hl : index_Source_Long ⟨[1], 0⟩ = some (1, ⟨[], 0⟩) := long_lg (n := 1) (by omega) (by omega) []
    have hlen : (((enc [65] ++ [0, 99, 1]).length : Nat) : Int) > 0 := by simp [enc]; omega
    have hwr : index_Source_Wrong ⟨[], 0⟩ 3 = some ⟨[], 3⟩ := rfl
    simp only [pubs_Made_l8, index_Source_Left, Option.bind_some, hlen, decide_true, if_true, enc_name [65] (by simp), hi, byte_cons, hl, show (IntKind.wrap .i64 99 == 97) = false from rfl, show (IntKind.wrap .i64 99 == 98) = false from rfl, Bool.false_eq_true, if_false, hwr, show (decide (IntKind.wrap .u64 1 > 1048576)) = false from rfl]
    rw [grow_eq (by simp) (by simp)]
    simp only [Option.bind_some]
    have := gm_end 3 ([] ++ [⟨[65], 99, 1⟩])
    unfold gm at this
    simp only [pubs_Made_l8, index_Source_Left, Option.bind_some] at this
    exact this
  rw [e3, made_spec _ _ _ (by simp [enc, s2b]) hbad, Option.bind_some, catS_eq (by simp [b2s, enc, s2b]), Option.bind_some]
  have e4 : s2b (b2s (enc [65]) ++ [0, 97, 5, 7]) = enc [65] ++ (0 :: 97 :: (lg 5 ++ (lg 7 ++ []))) := by
    rw [s2b_append, s2b_b2s (enc_wf [65] (by simp))]; rfl
  have htwo : gm (⟨enc [65] ++ (0 :: 97 :: (lg 5 ++ (lg 7 ++ []))), 0⟩, []) = some ([⟨[65], 97, 35⟩], ⟨[], 0⟩) := by
    rw [gm_far [65] 5 7 [] [] (by simp) (by omega) (by omega) (by simp) (by simp), if_pos (by omega), gm_end]
    rfl
  rw [e4, made_spec _ _ _ (by simp [enc, s2b, lg, le]) htwo, Option.bind_some, awake_true]
  rfl
end Go.Es.Pmd
