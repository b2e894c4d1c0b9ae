/- The law SegsAny in plain Lean. No condition. -/
import Derived.Test.YtedmdailpfbboaaSegH
set_option linter.unusedVariables false
set_option linter.unusedSimpArgs false
set_option maxHeartbeats 1000000
namespace Go.Es.Seg
/-! ### any bytes -/
def stOK (s : Source) : Prop := (s.e = 0 ∧ ∀ c ∈ s.b, wfI .u8 c) ∨ (s.b = [] ∧ (s.e = 2 ∨ s.e = 3))
theorem byte_st (s : Source) (h : stOK s) : ∃ v s', index_Source_Byte s = some (v, s') ∧ stOK s' ∧ (0 ≤ v ∧ v ≤ 255) ∧ (s'.e = 0 → s.e = 0 ∧ s'.b.length + 1 = s.b.length) := by
  obtain ⟨b, e⟩ := s
  rcases h with ⟨he, hw⟩ | ⟨hb, he⟩
  · simp only at he hw; subst he
    cases b with
    | nil => exact ⟨0, ⟨[], 2⟩, byte_nil, .inr ⟨rfl, .inl rfl⟩, by omega, fun h => absurd h (by decide)⟩
    | cons c r => exact ⟨c, ⟨r, 0⟩, byte_cons c r 0, .inl ⟨rfl, fun x hx => hw x (by simp [hx])⟩, wfI_u8.1 (hw c (by simp)), fun _ => ⟨rfl, by simp⟩⟩
  · simp only at hb he; subst hb
    exact ⟨0, ⟨[], e⟩, byte_end e (by omega), .inr ⟨rfl, he⟩, by omega, fun h => absurd h (by simp only; omega)⟩
theorem word_st (s : Source) (h : stOK s) : ∃ v s', index_Source_Word s = some (v, s') ∧ stOK s' ∧ (0 ≤ v ∧ v ≤ 65535) ∧ (s'.e = 0 → s.e = 0 ∧ s'.b.length + 2 = s.b.length) := by
  obtain ⟨b, e⟩ := s
  rcases h with ⟨he, hw⟩ | ⟨hb, he⟩
  · simp only at he hw; subst he
    have := word_any b hw
    rcases h1 : rdW b with _ | ⟨v, r⟩
    · rw [h1] at this
      exact ⟨0, ⟨[], 2⟩, this, .inr ⟨rfl, .inl rfl⟩, by omega, fun h => absurd h (by decide)⟩
    · rw [h1] at this
      obtain ⟨l1, l2⟩ := rdW_len h1
      exact ⟨v, ⟨r, 0⟩, this, .inl ⟨rfl, fun c hc => hw c (l2 c hc)⟩, rdW_lo hw h1, fun _ => ⟨rfl, l1⟩⟩
  · simp only at hb he; subst hb
    refine ⟨0, ⟨[], e⟩, ?_, .inr ⟨rfl, he⟩, by omega, fun h => absurd h (by simp only; omega)⟩
    unfold index_Source_Word index_Source_Take
    have : e ≠ 0 := by omega
    simp [index_Source_Wrong, this]
theorem index_st (s : Source) (h : stOK s) : ∃ v s', index_Source_Index s = some (v, s') ∧ stOK s' ∧ (s'.e = 0 → s.e = 0 ∧ (0 ≤ v ∧ v ≤ 32767) ∧ s'.b.length + (ix v).length ≤ s.b.length) := by
  obtain ⟨b, e⟩ := s
  rcases h with ⟨he, hw⟩ | ⟨hb, he⟩
  · simp only at he hw; subst he
    have := index_any b hw
    rcases h1 : rdIx b with _ | ⟨v, r⟩
    · rw [h1] at this
      exact ⟨0, ⟨[], 2⟩, this, .inr ⟨rfl, .inl rfl⟩, fun h => absurd h (by decide)⟩
    · rw [h1] at this
      obtain ⟨l1, l2⟩ := rdIx_len h1
      refine ⟨v, ⟨r, 0⟩, this, .inl ⟨rfl, fun c hc => hw c (l2 c hc)⟩, fun _ => ⟨rfl, rdIx_lo hw h1, ?_⟩⟩
      simp only
      cases b with
      | nil => simp [rdIx] at h1
      | cons c t =>
        obtain ⟨c0, c1⟩ := wfI_u8.1 (hw c (by simp))
        by_cases hc : c < 128
        · simp only [rdIx, hc, if_true, Option.some.injEq, Prod.mk.injEq] at h1
          obtain ⟨rfl, rfl⟩ := h1
          have : ix c = [c] := by unfold ix; rw [if_neg (by omega), if_pos hc]
          rw [this]; simp
        · cases t with
          | nil => simp [rdIx, hc] at h1
          | cons d t =>
            simp only [rdIx, hc, if_false, Option.some.injEq, Prod.mk.injEq] at h1
            obtain ⟨rfl, rfl⟩ := h1
            have := (ix_len ((c - 128) * 256 + d)).2
            simp only [List.length_cons]; omega
  · simp only at hb he; subst hb
    refine ⟨0, ⟨[], e⟩, ?_, .inr ⟨rfl, he⟩, fun h => absurd h (by simp only; omega)⟩
    unfold index_Source_Index
    rw [byte_end e (by omega)]; rfl
theorem wrong_st (s : Source) (h : stOK s) : ∃ s', index_Source_Wrong s 3 = some s' ∧ stOK s' ∧ s'.e ≠ 0 := by
  obtain ⟨b, e⟩ := s
  unfold index_Source_Wrong
  rcases h with ⟨he, hw⟩ | ⟨hb, he⟩
  · simp only at he; subst he
    exact ⟨⟨[], 3⟩, rfl, .inr ⟨rfl, .inr rfl⟩, by decide⟩
  · simp only at hb he; subst hb
    have h0 : e ≠ 0 := by omega
    exact ⟨⟨[], e⟩, by simp [h0], .inr ⟨rfl, he⟩, h0⟩
theorem end_st (s : Source) (h : stOK s) : ∃ v s', index_Source_End s = some (v, s') ∧ ((v = 0 ∧ s.e = 0 ∧ s.b = []) ∨ v = 2 ∨ v = 3) := by
  obtain ⟨b, e⟩ := s
  rw [end_spec]
  rcases h with ⟨he, hw⟩ | ⟨hb, he⟩
  · simp only at he; subst he
    by_cases hb : b = []
    · subst hb; exact ⟨0, ⟨[], 0⟩, by simp, .inl ⟨rfl, rfl, rfl⟩⟩
    · exact ⟨3, ⟨[], 3⟩, by simp [hb], .inr (.inr rfl)⟩
  · simp only at hb he; subst hb
    exact ⟨e, ⟨[], e⟩, by simp, .inr he⟩
def z0 : SegDef := ⟨0, 0, 0, 0, 0, 0, 0, 0⟩
theorem end_bad (s : Source) (h : stOK s) : ∃ s' t v, index_Source_Wrong s 3 = some s' ∧ index_Source_End s' = some (v, t) ∧ (v = 2 ∨ v = 3) := by
  obtain ⟨s', e, o, n⟩ := wrong_st s h
  obtain ⟨v, t, e2, hv⟩ := end_st s' o
  refine ⟨s', t, v, e, e2, ?_⟩
  rcases hv with ⟨_, h, _⟩ | h
  · exact absurd h n
  · exact h
theorem def28_any (z d : SegDef) (s : Source) (f : Int) (h : stOK s) : ∃ d' e, segs_Def_j28 z d s f = some (d', e) ∧
    (((e = 2 ∨ e = 3) ∧ d' = z0) ∨ (e = 0 ∧ s.e = 0 ∧ mayS d' ∧ d'.Align = d.Align ∧ d'.Frame = d.Frame ∧ d'.Offset = d.Offset ∧ (ix d'.Name).length + (ix d'.Class).length + (ix d'.Overlay).length ≤ s.b.length)) := by
  unfold segs_Def_j28
  obtain ⟨n, s1, e1, o1, p1⟩ := index_st s h
  obtain ⟨c, s2, e2, o2, p2⟩ := index_st s1 o1
  obtain ⟨o, s3, e3, o3, p3⟩ := index_st s2 o2
  obtain ⟨s4, s5, v, e4, e5, hv⟩ := end_bad s3 o3
  have hv0 : (v != 0) = true := by rcases hv with rfl | rfl <;> rfl
  simp only [e1, e2, e3, Option.bind_some]
  by_cases hf : (bitsOp .and .u8 f 1 != 0) = true
  · simp only [hf, if_true, e4, e5, Option.bind_some, hv0]
    exact ⟨_, _, rfl, .inl ⟨hv, rfl⟩⟩
  · simp only [Bool.not_eq_true] at hf
    simp only [hf, Bool.false_eq_true, if_false, may_spec, Option.bind_some]
    by_cases hm : mayS ⟨d.Align, d.Combine, d.Frame, d.Offset, d.Len, n, c, o⟩
    · simp only [hm, decide_true, Bool.not_true, Bool.false_eq_true, if_false]
      obtain ⟨w, s6, e6, hw⟩ := end_st s3 o3
      simp only [e6, Option.bind_some]
      rcases hw with ⟨rfl, h0, hb⟩ | hw
      · simp only [bne_self_eq_false, Bool.false_eq_true, if_false]
        obtain ⟨q2, r3, l3⟩ := p3 h0
        obtain ⟨q1, r2, l2⟩ := p2 q2
        obtain ⟨q0, r1, l1⟩ := p1 q1
        refine ⟨_, _, rfl, .inr ⟨rfl, q0, hm, rfl, rfl, rfl, ?_⟩⟩
        simp only; omega
      · have hw0 : (w != 0) = true := by rcases hw with rfl | rfl <;> rfl
        simp only [hw0, if_true]
        exact ⟨_, _, rfl, .inl ⟨hw, rfl⟩⟩
    · simp only [hm, decide_false, Bool.not_false, if_true, e4, e5, Option.bind_some, hv0]
      exact ⟨_, _, rfl, .inl ⟨hv, rfl⟩⟩
theorem wrong_st' (s : Source) (h : stOK s) : ∃ s', index_Source_Wrong s 3 = some s' ∧ stOK s' ∧ s'.e ≠ 0 := wrong_st s h
theorem def14_any (z d : SegDef) (s : Source) (f : Int) (h : stOK s) : ∃ d' e, segs_Def_j14 z d s f = some (d', e) ∧
    (((e = 2 ∨ e = 3) ∧ d' = z0) ∨ (e = 0 ∧ s.e = 0 ∧ mayS d' ∧ d'.Align = d.Align ∧ d'.Frame = d.Frame ∧ d'.Offset = d.Offset ∧ 2 + (ix d'.Name).length + (ix d'.Class).length + (ix d'.Overlay).length ≤ s.b.length)) := by
  unfold segs_Def_j14
  obtain ⟨n, s1, e1, o1, _, p1⟩ := word_st s h
  obtain ⟨s2, e2, o2, n2⟩ := wrong_st s1 o1
  simp only [e1, Option.bind_some, e2]
  have fin : ∀ (d1 : SegDef), d1.Align = d.Align → d1.Frame = d.Frame → d1.Offset = d.Offset → ∃ d' e, segs_Def_j28 z d1 s1 f = some (d', e) ∧
    (((e = 2 ∨ e = 3) ∧ d' = z0) ∨ (e = 0 ∧ s.e = 0 ∧ mayS d' ∧ d'.Align = d.Align ∧ d'.Frame = d.Frame ∧ d'.Offset = d.Offset ∧ 2 + (ix d'.Name).length + (ix d'.Class).length + (ix d'.Overlay).length ≤ s.b.length)) := by
    intro d1 g1 g2 g3
    obtain ⟨d', e, h1, h2⟩ := def28_any z d1 s1 f o1
    refine ⟨d', e, h1, ?_⟩
    rcases h2 with h2 | ⟨h2, h3, h4, h5, h6, h7, h8⟩
    · exact .inl h2
    · obtain ⟨q, l⟩ := p1 h3
      exact .inr ⟨h2, q, h4, h5.trans g1, h6.trans g2, h7.trans g3, by omega⟩
  split
  · split
    · obtain ⟨d', e, h1, h2⟩ := def28_any z ⟨d.Align, d.Combine, d.Frame, d.Offset, 65536, d.Name, d.Class, d.Overlay⟩ s2 f o2
      refine ⟨d', e, h1, ?_⟩
      rcases h2 with h2 | ⟨_, h3, _⟩
      · exact .inl h2
      · exact absurd h3 n2
    · exact fin _ rfl rfl rfl
  · exact fin _ rfl rfl rfl
theorem sb_len (s : SegDef) : (sb s).length = 1 + (if s.Align = 0 then 3 else 0) + 2 + (ix s.Name).length + (ix s.Class).length + (ix s.Overlay).length := by
  unfold sb
  split <;> simp [le_length] <;> omega
theorem def_any (y : List Int) (hw : ∀ c ∈ y, wfI .u8 c) (hl : y.length ≤ 2 ^ 40) : ∃ d e, segs_Def y = some (d, e) ∧
    (((e = 2 ∨ e = 3) ∧ d = z0) ∨ (e = 0 ∧ mayS d ∧ (0 ≤ d.Frame ∧ d.Frame ≤ 65535) ∧ (0 ≤ d.Offset ∧ d.Offset ≤ 255) ∧ (sb d).length ≤ y.length)) := by
  unfold segs_Def
  have h0 : stOK ⟨y, 0⟩ := .inl ⟨rfl, hw⟩
  obtain ⟨f, s1, e1, o1, _, p1⟩ := byte_st ⟨y, 0⟩ h0
  simp only [from_spec y hl, Option.bind_some, e1]
  by_cases ha : (IntKind.wrap .i64 (shrI .u8 f 5) == 0) = true
  · obtain ⟨w, s2, e2, o2, rw, p2⟩ := word_st s1 o1
    obtain ⟨b, s3, e3, o3, rb, p3⟩ := byte_st s2 o2
    simp only [ha, if_true, e2, e3, Option.bind_some]
    obtain ⟨d', e, h1, h2⟩ := def14_any ⟨0, 0, 0, 0, 0, 0, 0, 0⟩ ⟨IntKind.wrap .i64 (shrI .u8 f 5), IntKind.wrap .i64 (bitsOp .and .u8 (shrI .u8 f 2) 7), w, b, 0, 0, 0, 0⟩ s3 f o3
    refine ⟨d', e, h1, ?_⟩
    rcases h2 with h2 | ⟨h2, h3, h4, h5, h6, h7, h8⟩
    · exact .inl h2
    · obtain ⟨q3, l3⟩ := p3 h3
      obtain ⟨q2, l2⟩ := p2 q3
      obtain ⟨q1, l1⟩ := p1 q2
      refine .inr ⟨h2, h4, ?_, ?_, ?_⟩
      · rw [h6]; exact rw
      · rw [h7]; exact rb
      · rw [sb_len]; simp only at l1; split <;> omega
  · have ha' : ¬ IntKind.wrap .i64 (shrI .u8 f 5) = 0 := fun h => ha (by rw [h]; rfl)
    simp only [Bool.not_eq_true] at ha
    simp only [ha, Bool.false_eq_true, if_false]
    obtain ⟨d', e, h1, h2⟩ := def14_any ⟨0, 0, 0, 0, 0, 0, 0, 0⟩ ⟨IntKind.wrap .i64 (shrI .u8 f 5), IntKind.wrap .i64 (bitsOp .and .u8 (shrI .u8 f 2) 7), 0, 0, 0, 0, 0, 0⟩ s1 f o1
    refine ⟨d', e, h1, ?_⟩
    rcases h2 with h2 | ⟨h2, h3, h4, h5, h6, h7, h8⟩
    · exact .inl h2
    · obtain ⟨q1, l1⟩ := p1 h3
      refine .inr ⟨h2, h4, ?_, ?_, ?_⟩
      · rw [h6]; simp
      · rw [h7]; simp
      · rw [sb_len, if_neg (by rw [h5]; exact ha')]; simp only at l1; omega
theorem xor_wf (x y : Int) : wfI .u8 (bitsOp .xor .u8 x y) := by
  have e : bitsOp .xor .u8 x y = IntKind.wrap .u8 (((BitVec.ofInt 8 x ^^^ BitVec.ofInt 8 y).toNat : Nat) : Int) := rfl
  rw [e, wrap_u8', wfI_u8]
  omega
theorem any16 (y : List Int) (hw : ∀ c ∈ y, wfI .u8 c) (hl : y.length ≤ 2 ^ 40) : hansomlaw21_SegsAny_j16 y = some true := by
  obtain ⟨d, e, h1, h2⟩ := def_any y hw hl
  unfold hansomlaw21_SegsAny_j16
  simp only [h1, Option.bind_some]
  rcases h2 with ⟨h2, rfl⟩ | ⟨rfl, h2, h3, h4, h5⟩
  · rcases h2 with rfl | rfl <;> simp [awake_true, z0]
  · simp only [bne_self_eq_false, Bool.false_eq_true, if_false, segment_spec d h3.1 h3.2, if_pos h2, Option.bind_some, def_segment d h2 h3 h4, awake_true, if_true, refmay_spec, h2, decide_true]
    simp
    omega
theorem near6 (s : SegDef) (w : SegDef.wf s) : ∃ x, hansomlaw21_near s 6 = some x ∧ mayS x ∧ (0 ≤ x.Frame ∧ x.Frame ≤ 65535) := by
  obtain ⟨_, _, wf, wo, _⟩ := w
  have wf := wfI_u16.1 wf
  have wo := wfI_u8.1 wo
  have a1 : bitsOp .and .i64 s.Align 255 = s.Align % 256 := and_mask s.Align 8 (by omega)
  have a2 : bitsOp .and .i64 s.Combine 3 = s.Combine % 4 := and_mask s.Combine 2 (by omega)
  have a3 : bitsOp .and .i64 s.Len 131071 = s.Len % 131072 := and_mask s.Len 17 (by omega)
  have a4 : bitsOp .and .i64 s.Name 32767 = s.Name % 32768 := and_mask s.Name 15 (by omega)
  have a5 : bitsOp .and .i64 s.Class 255 = s.Class % 256 := and_mask s.Class 8 (by omega)
  have a6 : bitsOp .and .i64 s.Overlay 255 = s.Overlay % 256 := and_mask s.Overlay 8 (by omega)
  have t1 : Int.tmod (s.Align % 256) 5 = s.Align % 256 % 5 := Int.tmod_eq_emod_of_nonneg (by omega)
  have t2 : Int.tmod (s.Len % 131072) 65537 = s.Len % 131072 % 65537 := Int.tmod_eq_emod_of_nonneg (by omega)
  have m0 := Int.emod_nonneg s.Combine (show (4 : Int) ≠ 0 by decide)
  have m1 := Int.emod_lt_of_pos s.Combine (show (0 : Int) < 4 by decide)
  have hidx : ∃ c, idx ([0, 2, 5, 6] : List Int) (s.Combine % 4) = some c ∧ (c = 0 ∨ c = 2 ∨ c = 5 ∨ c = 6) := by
    have : s.Combine % 4 = 0 ∨ s.Combine % 4 = 1 ∨ s.Combine % 4 = 2 ∨ s.Combine % 4 = 3 := by omega
    rcases this with h | h | h | h <;> rw [h] <;> exact ⟨_, rfl, by simp⟩
  obtain ⟨c, hc, hc'⟩ := hidx
  have j : ∀ z x : SegDef, hansomlaw21_near_j10 s z x 6 = some x := by
    intro z x
    unfold hansomlaw21_near_j10
    simp [show bitsOp .and .i64 6 15 = 6 from rfl]
  unfold hansomlaw21_near
  simp only [a1, a2, a3, a4, a5, a6, t1, t2, hc, Option.bind_some, j]
  by_cases ha : s.Align % 256 % 5 = 0
  · simp only [ha, beq_self_eq_true, if_true]
    refine ⟨_, rfl, ⟨?_, ?_, hc', ?_, ?_, ?_, ?_⟩, wf⟩ <;> simp only <;> omega
  · simp only [beq_iff_eq, ha, if_false]
    refine ⟨_, rfl, ⟨?_, ?_, hc', fun _ => ⟨rfl, rfl⟩, ?_, ?_, ?_⟩, ?_⟩ <;> simp only <;> omega
theorem segsAny_true (s : SegDef) (at_ : Int) (b : List Int) (ws : SegDef.wf s) (wa : wfI .i64 at_) (wb : wfL (wfI .u8) b) : hansomlaw21_SegsAny s at_ b = some true := by
  obtain ⟨x, hx, hm, hf⟩ := near6 s ws
  have hsb : ∀ c ∈ s2b (b2s (sb x)), wfI .u8 c := s2b_wf _
  have hl := sb_len x
  have n1 := ix_len x.Name; have n2 := ix_len x.Class; have n3 := ix_len x.Overlay
  have hlen : (s2b (b2s (sb x))).length = (sb x).length := by rw [s2b_length, b2s_length]
  have hl1 : 5 ≤ (sb x).length ∧ (sb x).length ≤ 100 := by rw [hl]; split <;> omega
  unfold hansomlaw21_SegsAny
  have a1 : bitsOp .and .i64 at_ 255 = at_ % 256 := and_mask at_ 8 (by omega)
  have m0 := Int.emod_nonneg at_ (show (256 : Int) ≠ 0 by decide)
  have hr : remI .i64 (at_ % 256) ((s2b (b2s (sb x))).length : Int) = some (at_ % 256 % ((s2b (b2s (sb x))).length : Int)) := by
    unfold remI
    rw [if_neg (by rw [hlen]; omega), Int.tmod_eq_emod_of_nonneg m0]
  have k0 : 0 ≤ at_ % 256 % ((s2b (b2s (sb x))).length : Int) := Int.emod_nonneg _ (by rw [hlen]; omega)
  have k1 : at_ % 256 % ((s2b (b2s (sb x))).length : Int) < ((s2b (b2s (sb x))).length : Int) := Int.emod_lt_of_pos _ (by rw [hlen]; omega)
  simp only [hx, Option.bind_some, ref_segment x hm hf, a1, hr, idx_eq k0 k1]
  have b7 : bitsOp .and .i64 (shrI .i64 at_ 8) 7 = shrI .i64 at_ 8 % 8 := and_mask _ 3 (by omega)
  have hs : ∃ v, shlO .u8 1 (IntKind.wrap .u64 (bitsOp .and .i64 (shrI .i64 at_ 8) 7)) = some v := by
    rw [b7]
    have s0 := Int.emod_nonneg (shrI .i64 at_ 8) (show (8 : Int) ≠ 0 by decide)
    have s1 := Int.emod_lt_of_pos (shrI .i64 at_ 8) (show (0 : Int) < 8 by decide)
    rw [show IntKind.wrap .u64 (shrI .i64 at_ 8 % 8) = shrI .i64 at_ 8 % 8 by rw [wrap_u64']; omega]
    unfold shlO
    rw [if_neg (by omega)]
    exact ⟨_, rfl⟩
  obtain ⟨v, hv⟩ := hs
  simp only [hv, Option.bind_some]
  split
  · have : mnI (b.length : Int) 14 = mnI (b.length : Int) ((14 : Nat) : Int) := rfl
    rw [this, cut_min, Option.bind_some]
    exact any16 _ (fun c hc => wb.2 c (List.mem_of_mem_take hc)) (by simp; omega)
  · refine any16 _ (fun c hc => ?_) (by rw [List.length_set, hlen]; omega)
    rcases List.mem_or_eq_of_mem_set hc with h | h
    · exact hsb c h
    · rw [h]; exact xor_wf _ _
end Go.Es.Seg
