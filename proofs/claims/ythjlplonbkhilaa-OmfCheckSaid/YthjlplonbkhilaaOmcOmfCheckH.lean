/- The law OmfCheck in plain Lean. No condition. -/
import Derived.Test.YthjlplonbkhilaaOmcH
set_option linter.unusedVariables false
set_option linter.unusedSimpArgs false
set_option maxHeartbeats 4000000
set_option maxRecDepth 100000
namespace Go.Es.Omc
/-- the law's end, where Check's answer is told -/
theorem j37_ok (x : Module) (k w : Int) (hn : x.Names.length ≤ 5) (hk : 1 ≤ k ∧ k ≤ 256) (hc : omf_Check x = some w) (hw : w ≠ 0) : hansomlaw26_OmfCheck_j37 x k w = some true := by
  have hb : (w != 0) = true := by simp [hw]
  have hr : omf_Records x = some ([], w) := by
    unfold omf_Records
    rw [hc, Option.bind_some, hb, if_pos rfl]
  have hwr : omf_Write x = some ([], w) := by
    unfold omf_Write
    rw [hr, Option.bind_some, if_pos hb]
  have e1 : IntKind.wrap .i64 ((x.Names.length : Int) + k) = (x.Names.length : Int) + k := wrap64 (by omega) (by omega)
  have n1 : omf_Name x ((x.Names.length : Int) + k) = some [] := by
    unfold omf_Name
    rw [in_f (.inr (by omega))]; rfl
  have n2 : omf_Name x 0 = some [] := by
    unfold omf_Name
    rw [in_f (.inl (by omega))]; rfl
  unfold hansomlaw26_OmfCheck_j37
  rw [hwr, Option.bind_some, e1]
  simp only [hansomlaw26_awake, Option.bind_some, if_true, hc, beq_self_eq_true, n1, n2, List.length_nil]
  rfl
theorem many_t {x : Module} (h1 : x.Segs.length ≤ 64) (h2 : x.Groups.length ≤ 64) (h3 : x.Exts.length ≤ 256) (h4 : x.Pubs.length ≤ 256) (h5 : x.Names.length ≤ 256) (h6 : x.Datas.length ≤ 512) : omf_many x = some true := by
  unfold omf_many
  rw [dT (by omega), if_pos rfl, dT (by omega), if_pos rfl, dT (by omega), if_pos rfl, dT (by omega), if_pos rfl, dT (by omega), if_pos rfl, dT (by omega)]
theorem omfCheck_true (m : Module) (kind n : Int) (wm : Module.wf m) (wk : wfI .i64 kind) (wn : wfI .i64 n) : hansomlaw26_OmfCheck m kind n = some true := by
  obtain ⟨x, h1, hx⟩ := near_ok m wm
  have x1 := hx.names; have x2 := hx.segs; have x3 := hx.groups; have x4 := hx.exts; have x5 := hx.pubs; have x6 := hx.datas
  have ha : ManyOk (manyOf x) := by
    unfold ManyOk manyOf
    simp only
    omega
  unfold hansomlaw26_OmfCheck
  rw [h1, Option.bind_some]
  have hn := a255 n
  have ek : IntKind.wrap .i64 (bitsOp .and .i64 n 255 + 1) = bitsOp .and .i64 n 255 + 1 := wrap64 (by omega) (by omega)
  rw [ek]
  have hk : 1 ≤ bitsOp .and .i64 n 255 + 1 ∧ bitsOp .and .i64 n 255 + 1 ≤ 256 := by omega
  generalize bitsOp .and .i64 n 255 + 1 = k at hk ⊢
  have en : IntKind.wrap .i64 ((x.Names.length : Int) + k) = (x.Names.length : Int) + k := wrap64 (by omega) (by omega)
  have es : IntKind.wrap .i64 ((x.Segs.length : Int) + k) = (x.Segs.length : Int) + k := wrap64 (by omega) (by omega)
  rw [en, es]
  split
  · rw [grow_eq (by simp; omega) (by simp; omega), Option.bind_some]
    refine j37_ok _ k 5 x1.2 hk ?_ (by decide)
    unfold omf_Check
    rw [many_t (by simp; omega) (by show x.Groups.length ≤ 64; omega) (by show x.Exts.length ≤ 256; omega) (by show x.Pubs.length ≤ 256; omega) (by show x.Names.length ≤ 256; omega) (by show x.Datas.length ≤ 512; omega), Option.bind_some]
    simp only [Bool.not_true, Bool.false_eq_true, if_false]
    have := stage1_bad (m := { x with Segs := x.Segs ++ [({ Align := 1, Combine := 0, Frame := 0, Offset := 0, Len := 0, Name := (x.Names.length : Int) + k, Class := 0, Overlay := 0 } : SegDef)] }) x1 rfl (by omega) hx.seg (seg_may _ (by simp) (by simp) (.inl rfl) rfl rfl (by simp only; omega) (by simp) (by simp)) (by simp only; omega)
    rw [this]
    rfl
  split
  · rw [grow_eq (by simp; omega) (by simp; omega), Option.bind_some]
    refine j37_ok _ k 5 x1.2 hk ?_ (by decide)
    unfold omf_Check
    rw [many_t (by show x.Segs.length ≤ 64; omega) (by simp; omega) (by show x.Exts.length ≤ 256; omega) (by show x.Pubs.length ≤ 256; omega) (by show x.Names.length ≤ 256; omega) (by show x.Datas.length ≤ 512; omega), Option.bind_some]
    simp only [Bool.not_true, Bool.false_eq_true, if_false]
    have s1 := stage1 (m := { x with Groups := x.Groups ++ [({ Name := 1, Segs := [(x.Segs.length : Int) + k] } : GrpDef)] }) x1 (by show x.Segs.length ≤ 100; omega) hx.seg
    have s2 := stage2_bad (m := { x with Groups := x.Groups ++ [({ Name := 1, Segs := [(x.Segs.length : Int) + k] } : GrpDef)] }) x1.1 rfl (by omega) hx.grp (by simp only; omega)
    rw [s1, Option.bind_some]
    simp only
    rw [s2]
    rfl
  split
  · rw [grow_eq (by simp; omega) (by simp; omega), Option.bind_some]
    refine j37_ok _ k 5 x1.2 hk ?_ (by decide)
    unfold omf_Check
    rw [many_t (by show x.Segs.length ≤ 64; omega) (by show x.Groups.length ≤ 64; omega) (by show x.Exts.length ≤ 256; omega) (by simp; omega) (by show x.Names.length ≤ 256; omega) (by show x.Datas.length ≤ 512; omega), Option.bind_some]
    simp only [Bool.not_true, Bool.false_eq_true, if_false]
    have s1 := stage1 (m := { x with Pubs := x.Pubs ++ [({ Group := 0, Seg := (x.Segs.length : Int) + k, Frame := 0, Name := [], Off := 0 } : Pub)] }) x1 (by show x.Segs.length ≤ 100; omega) hx.seg
    have s2 := stage2 (m := { x with Pubs := x.Pubs ++ [({ Group := 0, Seg := (x.Segs.length : Int) + k, Frame := 0, Name := [], Off := 0 } : Pub)] }) (by show x.Groups.length ≤ 100; omega) hx.grp
    have s3 := stage3_bad (m := { x with Pubs := x.Pubs ++ [({ Group := 0, Seg := (x.Segs.length : Int) + k, Frame := 0, Name := [], Off := 0 } : Pub)] }) rfl (by omega) hx.pub rfl (by simp only; omega)
    rw [s1, Option.bind_some]
    simp only
    rw [s2, Option.bind_some]
    simp only
    rw [s3]
    rfl
  have datas : ∀ (z : Data) (w : Int), w ≠ 0 → omf_rest { x with Datas := x.Datas ++ [z] } = some w → hansomlaw26_OmfCheck_j37 { x with Datas := x.Datas ++ [z] } k w = some true := by
    intro z w hw hr
    refine j37_ok _ k w x1.2 hk ?_ hw
    unfold omf_Check
    rw [many_t (by show x.Segs.length ≤ 64; omega) (by show x.Groups.length ≤ 64; omega) (by show x.Exts.length ≤ 256; omega) (by show x.Pubs.length ≤ 256; omega) (by show x.Names.length ≤ 256; omega) (by simp; omega), Option.bind_some]
    simp only [Bool.not_true, Bool.false_eq_true, if_false]
    have s1 := stage1 (m := { x with Datas := x.Datas ++ [z] }) x1 (by show x.Segs.length ≤ 100; omega) hx.seg
    have s2 := stage2 (m := { x with Datas := x.Datas ++ [z] }) (by show x.Groups.length ≤ 100; omega) hx.grp
    have s3 := stage3 (m := { x with Datas := x.Datas ++ [z] }) (by show x.Pubs.length ≤ 100; omega) hx.pub
    rw [s1, Option.bind_some]
    simp only
    rw [s2, Option.bind_some]
    simp only
    rw [s3, Option.bind_some]
    simp only
    rw [hr]
    rfl
  split
  · rw [grow_eq (by simp; omega) (by simp; omega), Option.bind_some]
    refine datas _ 5 (by decide) (rest_bad (m := { x with Datas := x.Datas ++ [_] }) ha 5 rfl (by omega) (by show x.Segs.length ≤ 100; omega) hx.data ?_)
    rintro i rfl
    exact bad5 (m := { x with Datas := x.Datas ++ [_] }) rfl (by simp only; omega)
  split
  · obtain ⟨s, hs1, hs2⟩ : ∃ s, idx x.Segs 0 = some s ∧ s ∈ x.Segs := ⟨_, idx_eq (by omega) (by omega), List.getElem_mem _⟩
    have hsk := hx.seg s hs2
    obtain ⟨_, _, _, _, hlen, _⟩ := hsk
    have e16 : IntKind.wrap .u16 s.Len = s.Len := wrapu16 (by omega) (by omega)
    rw [hs1, Option.bind_some, e16, grow_eq (by simp; omega) (by simp; omega), Option.bind_some]
    refine datas _ 3 (by decide) (rest_bad (m := { x with Datas := x.Datas ++ [_] }) ha 3 rfl (by omega) (by show x.Segs.length ≤ 100; omega) hx.data ?_)
    rintro i rfl
    exact bad3 (m := { x with Datas := x.Datas ++ [_] }) rfl x2.1 hs1 rfl (by omega)
  · have hg : growZ 56 ({ Align := 0, Combine := 0, Frame := 0, Offset := 0, Len := 0, Name := 0, Class := 0, Overlay := 0 } : SegDef) x.Segs 64 = some (x.Segs ++ List.replicate 64 { Align := 0, Combine := 0, Frame := 0, Offset := 0, Len := 0, Name := 0, Class := 0, Overlay := 0 }) := by
      unfold growZ
      have e64 : (64 : Int).toNat = 64 := rfl
      rw [e64, if_pos ⟨by omega, by omega, by omega, by omega, by omega⟩]
    rw [hg, Option.bind_some]
    refine j37_ok _ k 8 x1.2 hk ?_ (by decide)
    unfold omf_Check
    have hm : omf_many { x with Segs := x.Segs ++ List.replicate 64 ({ Align := 0, Combine := 0, Frame := 0, Offset := 0, Len := 0, Name := 0, Class := 0, Overlay := 0 } : SegDef) } = some false := by
      unfold omf_many
      rw [dF (by simp; omega)]
      rfl
    rw [hm]
    rfl
end Go.Es.Omc
