/- The law SegsGroup in plain Lean. No condition. -/
import Derived.Test.YtedmdailpfbboaaSegH
set_option linter.unusedVariables false
set_option linter.unusedSimpArgs false
set_option maxHeartbeats 1000000
namespace Go.Es.Seg
/-! ### groups -/
def gone (n : Int) : List Int := 255 :: ix n
def gs (l : List Int) : List Int := l.flatMap gone
theorem gone_length (n : Int) : (gone n).length ≤ 3 := by have := (ix_len n).2; simp [gone]; omega
theorem gs_length (l : List Int) : (gs l).length ≤ 3 * l.length := by
  unfold gs
  induction l with
  | nil => simp
  | cons p l ih => have := gone_length p; rw [List.flatMap_cons, List.length_append, List.length_cons]; omega
theorem gs_app (l : List Int) (s : Int) : gs (l ++ [s]) = gs l ++ gone s := by simp [gs]
theorem take_succ'' {l : List Int} {i : Nat} (h : i < l.length) : l.take (i + 1) = l.take i ++ [l[i]] := by
  rw [List.take_add_one, List.getElem?_eq_getElem h]; rfl
theorem group_spec (g : GrpDef) (hl : g.Segs.length ≤ 1000) : segs_Group g = some ⟨154, ix g.Name ++ gs g.Segs⟩ := by
  obtain ⟨n, l⟩ := g
  simp only at hl ⊢
  unfold segs_Group
  have hn := (ix_len n).2
  simp only [index_Put_spec, Option.bind_some]
  rw [loop_to (f := fun x : List Int × Int => segs_Group_l8 x.1 0 l (l.length : Int) x.2) (fun _ => ix n ++ gs l)
    (fun x => 0 ≤ x.2 ∧ x.2 ≤ l.length ∧ x.1 = ix n ++ gs (l.take x.2.toNat)) (fun x => (l.length - x.2).toNat) (fun x hx => ?_) ⟨by simp, by simp, by simp [gs]⟩]
  · rfl
  · obtain ⟨r, i⟩ := x
    obtain ⟨h0, h1, h2⟩ := hx
    simp only at h0 h1 h2 ⊢
    subst h2
    unfold segs_Group_l8
    by_cases hi : i < (l.length : Int)
    · left
      have hlt : i.toNat < l.length := by omega
      have hbl := gs_length (l.take i.toNat)
      rw [List.length_take] at hbl
      have e : (i + 1).toNat = i.toNat + 1 := by omega
      have hq := (ix_len (l[i.toNat]'hlt)).2
      simp only [hi, decide_true, if_true, idx_eq h0 hi, Option.bind_some, index_Put_spec]
      rw [grow_eq (by simp; omega) (by simp; omega), Option.bind_some, grow_eq (by simp; omega) (by simp; omega), Option.bind_some, wrap64 (by omega) (by omega)]
      refine ⟨_, rfl, ⟨by simp only; omega, by simp only; omega, ?_⟩, by simp only; omega, trivial⟩
      simp only [e, take_succ'' hlt, gs_app, gone, List.append_assoc, List.singleton_append]
    · right
      have : i.toNat = l.length := by omega
      simp [hi, this]
theorem ref_group (g : GrpDef) (hl : g.Segs.length ≤ 1000) : hansomref21_Group g = some (b2s (ix g.Name ++ gs g.Segs)) := by
  obtain ⟨n, l⟩ := g
  simp only at hl ⊢
  unfold hansomref21_Group
  have hn := (ix_len n).2
  simp only [ref_Index_spec, Option.bind_some]
  rw [loop_to (f := fun x : List UInt8 × Int => hansomref21_Group_l8 ⟨n, l⟩ x.1 x.2) (fun _ => b2s (ix n ++ gs l))
    (fun x => 0 ≤ x.2 ∧ x.2 ≤ l.length ∧ x.1 = b2s (ix n ++ gs (l.take x.2.toNat))) (fun x => (l.length - x.2).toNat) (fun x hx => ?_) ⟨by simp, by simp, by simp [gs]⟩]
  · rfl
  · obtain ⟨r, i⟩ := x
    obtain ⟨h0, h1, h2⟩ := hx
    simp only at h0 h1 h2 ⊢
    subst h2
    unfold hansomref21_Group_l8
    by_cases hi : i < (l.length : Int)
    · left
      have hlt : i.toNat < l.length := by omega
      have hbl := gs_length (l.take i.toNat)
      rw [List.length_take] at hbl
      have e : (i + 1).toNat = i.toNat + 1 := by omega
      have hq := (ix_len (l[i.toNat]'hlt)).2
      simp only [hi, decide_true, if_true, idx_eq h0 hi, Option.bind_some, ref_Index_spec]
      rw [catS_eq (by simp [b2s_length]; omega), Option.bind_some, catS_eq (by simp [b2s_length]; omega), Option.bind_some, wrap64 (by omega) (by omega)]
      refine ⟨_, rfl, ⟨by simp only; omega, by simp only; omega, ?_⟩, by simp only; omega, trivial⟩
      simp only [e, take_succ'' hlt, gs_app, gone, b2s_append, List.append_assoc]
      rfl
    · right
      have : i.toNat = l.length := by omega
      simp [hi, this]
noncomputable def gl (x : GrpDef × Source) := loopO (fun x : (GrpDef × Source) => segs_Groups_l8 x.1 x.2 0) x
theorem gl_end (g : GrpDef) (e : Int) : gl (g, ⟨[], e⟩) = some (g, ⟨[], e⟩) := by
  unfold gl
  rw [loopO_eq]
  rfl
theorem gl_one (g : GrpDef) (n : Int) (t : List Int) (h0 : 0 ≤ n) (h1 : n ≤ 32767) (ht : ∀ c ∈ t, wfI .u8 c) (ho : g.Segs.length ≤ 1000) : gl (g, ⟨gone n ++ t, 0⟩) = gl (⟨g.Name, g.Segs ++ [n]⟩, ⟨t, 0⟩) := by
  unfold gl
  rw [loopO_eq]
  have hlen : ((gone n ++ t).length : Int) > 0 := by simp [gone]; omega
  have : segs_Groups_l8 g ⟨gone n ++ t, 0⟩ 0 = some (.next (⟨g.Name, g.Segs ++ [n]⟩, ⟨t, 0⟩)) := by
    unfold segs_Groups_l8
    simp only [index_Source_Left, Option.bind_some, hlen, decide_true, if_true]
    rw [gone, List.cons_append, byte_cons, Option.bind_some]
    simp only [bne_self_eq_false, Bool.false_eq_true, if_false]
    rw [index_ix h0 h1 t ht, Option.bind_some, grow_eq (by simp; omega) (by simp; omega)]
    rfl
  simp only [this]; rfl
theorem gs_wf (l : List Int) : ∀ c ∈ gs l, wfI .u8 c := by
  intro c hc
  obtain ⟨p, hp, hc⟩ := List.mem_flatMap.1 hc
  simp only [gone, List.mem_cons] at hc
  rcases hc with rfl | hc
  · exact wfI_u8.2 ⟨by omega, by omega⟩
  · exact ix_wf _ _ hc
theorem gl_many (g : GrpDef) (l : List Int) (t : List Int) (hk : ∀ n ∈ l, 0 ≤ n ∧ n ≤ 32767) (ht : ∀ c ∈ t, wfI .u8 c) (ho : g.Segs.length + l.length ≤ 1000) : gl (g, ⟨gs l ++ t, 0⟩) = gl (⟨g.Name, g.Segs ++ l⟩, ⟨t, 0⟩) := by
  induction l generalizing g with
  | nil => simp [gs]
  | cons p k ih =>
    rw [List.length_cons] at ho
    rw [show gs (p :: k) = gone p ++ gs k from rfl, List.append_assoc, gl_one g p _ (hk p (by simp)).1 (hk p (by simp)).2 (fun c hc => by
      rcases List.mem_append.1 hc with hc | hc
      · exact gs_wf k c hc
      · exact ht c hc) (by omega), ih _ (fun r hr => hk r (by simp [hr])) (by simp; omega)]
    simp
theorem groups_eq (n : Int) (r : List Int) (h0 : 0 ≤ n ∧ n ≤ 32767) (hr : ∀ c ∈ r, wfI .u8 c) (hl : r.length ≤ 100000) :
    segs_Groups (ix n ++ r) = (gl (⟨n, []⟩, ⟨r, 0⟩)).bind fun e => if e.2.e != 0 then some (⟨0, []⟩, e.2.e) else some (e.1, 0) := by
  have g := (ix_len n).2
  unfold segs_Groups
  rw [from_spec _ (by rw [List.length_append]; omega), Option.bind_some, index_ix h0.1 h0.2 r hr, Option.bind_some]; rfl
theorem gl_bad (g : GrpDef) (c : Int) (h0 : 0 ≤ c) (h1 : c ≤ 127) (ho : g.Segs.length ≤ 1000) : ∃ g', gl (g, ⟨[c, 1], 0⟩) = some (g', ⟨[], 3⟩) := by
  have hi : index_Source_Index ⟨[], 3⟩ = some (0, ⟨[], 3⟩) := by
    unfold index_Source_Index
    rw [byte_end 3 (by decide)]; rfl
  have hw : index_Source_Wrong ⟨[1], 0⟩ 3 = some ⟨[], 3⟩ := rfl
  have : segs_Groups_l8 g ⟨[c, 1], 0⟩ 0 = some (.next (⟨g.Name, g.Segs ++ [0]⟩, ⟨[], 3⟩)) := by
    unfold segs_Groups_l8
    rw [show index_Source_Left ⟨[c, 1], 0⟩ = some 2 from rfl, Option.bind_some, byte_cons]
    have hne : (c != 255) = true := by simp; omega
    simp only [show decide ((2 : Int) > 0) = true from rfl, if_true, Option.bind_some, hne, hw, hi]
    rw [grow_eq (by simp; omega) (by simp; omega)]; rfl
  refine ⟨⟨g.Name, g.Segs ++ [0]⟩, ?_⟩
  rw [← gl_end ⟨g.Name, g.Segs ++ [0]⟩ 3]
  unfold gl
  rw [loopO_eq]
  simp only [this]; rfl
theorem pickg (nm : Int) (l : List Int) (at' : Int) :
    ∃ r, loopO (fun x : (GrpDef × Int) => hansomlaw21_SegsGroup_l8 x.1 l at' x.2) ((⟨nm, []⟩ : GrpDef), 0) = some ⟨nm, r⟩ ∧ r.length ≤ 12 ∧ ∀ n ∈ r, 0 ≤ n ∧ n ≤ 1023 := by
  have key := loop_rule (f := fun x : GrpDef × Int => hansomlaw21_SegsGroup_l8 x.1 l at' x.2)
    (fun x => 0 ≤ x.2 ∧ x.2 ≤ 12 ∧ x.1.Name = nm ∧ (x.1.Segs.length : Int) = x.2 ∧ ∀ n ∈ x.1.Segs, 0 ≤ n ∧ n ≤ 1023) (fun x => (12 - x.2).toNat)
    (fun b => ∃ r, b = (⟨nm, r⟩ : GrpDef) ∧ r.length ≤ 12 ∧ ∀ n ∈ r, 0 ≤ n ∧ n ≤ 1023) (fun x hx => by
      obtain ⟨⟨m, o⟩, i⟩ := x
      obtain ⟨h0, h1, h2, h3, h4⟩ := hx
      simp only at h0 h1 h2 h3 h4 ⊢
      subst h2
      unfold hansomlaw21_SegsGroup_l8
      by_cases hi : i < (l.length : Int)
      · by_cases h8 : i < 12
        · left
          have a10 : ∀ x : Int, bitsOp .and .i64 x 1023 = x % 1024 := fun x => and_mask x 10 (by omega)
          simp only [hi, h8, decide_true, if_true, idx_eq h0 hi, Option.bind_some, a10]
          rw [grow_eq (by simp; omega) (by simp; omega), Option.bind_some, wrap64 (by omega) (by omega)]
          refine ⟨_, rfl, ⟨by simp only; omega, by simp only; omega, rfl, by simp only [List.length_append, List.length_singleton]; omega, fun n hn => ?_⟩, by simp only; omega⟩
          simp only [List.mem_append, List.mem_singleton] at hn
          rcases hn with hn | rfl
          · exact h4 n hn
          · omega
        · right
          exact ⟨_, by simp only [hi, h8, decide_true, decide_false, Bool.false_eq_true, if_true, if_false], o, rfl, by omega, h4⟩
      · right
        exact ⟨_, by simp only [hi, decide_false, Bool.false_eq_true, if_false], o, rfl, by omega, h4⟩) (x := (⟨nm, []⟩, 0)) ⟨by simp, by simp, rfl, by simp, by simp⟩
  obtain ⟨b, hb, r, rfl, h1, h2⟩ := key
  exact ⟨r, hb, h1, h2⟩
theorem segsGroup_true (name : Int) (l : List Int) (at' : Int) (w0 : wfI .i64 name) (w1 : wfL (wfI .i64) l) (w2 : wfI .i64 at') : hansomlaw21_SegsGroup name l at' = some true := by
  have a15 : bitsOp .and .i64 name 32767 = name % 32768 := and_mask name 15 (by omega)
  obtain ⟨r, hr, hl, hn⟩ := pickg (name % 32768) l at'
  have hk : ∀ n ∈ r, 0 ≤ n ∧ n ≤ 32767 := fun n h => by have := hn n h; omega
  have hgl := gs_length r
  have hx := (ix_len (name % 32768)).2
  unfold hansomlaw21_SegsGroup
  rw [a15, hr, Option.bind_some, group_spec _ (by simp only; omega), Option.bind_some]
  simp only
  rw [groups_eq _ _ (by omega) (gs_wf r) (by omega)]
  have gm := gl_many ⟨name % 32768, []⟩ r [] hk (by simp) (by simp; omega)
  rw [List.append_nil] at gm
  rw [gm, gl_end, Option.bind_some]
  simp only [bne_self_eq_false, Bool.false_eq_true, if_false, List.nil_append, Option.bind_some]
  rw [ref_group _ (by simp only; omega), Option.bind_some]
  simp only [bne_self_eq_false, Bool.false_eq_true, if_false]
  rw [loop_to (f := fun x : Int => hansomlaw21_SegsGroup_l35 ⟨name % 32768, r⟩ ⟨154, ix (name % 32768) ++ gs r⟩ ⟨name % 32768, r⟩ at' x) (fun _ => (.inr () : Bool ⊕ Unit)) (fun i => 0 ≤ i ∧ i ≤ r.length) (fun i => (r.length - i).toNat) (fun i hi => ?_) ⟨by omega, by omega⟩, Option.bind_some]
  · have a7 : bitsOp .and .i64 at' 127 = at' % 128 := and_mask at' 7 (by omega)
    have a8 : bitsOp .and .i64 at' 255 = at' % 256 := and_mask at' 8 (by omega)
    have a3 : bitsOp .and .i64 at' 7 = at' % 8 := and_mask at' 3 (by omega)
    simp only [a7, a8, a3]
    rw [grow_eq (by simp; omega) (by simp; omega), Option.bind_some, wrapu8 (n := at' % 128) (by omega) (by omega), grow_eq (by simp; omega) (by simp; omega), Option.bind_some, List.nil_append, List.append_assoc]
    have hw : ∀ c ∈ [at' % 128, 1], wfI .u8 c := by
      intro c hc
      simp only [List.mem_cons, List.not_mem_nil, or_false] at hc
      rcases hc with rfl | rfl
      · exact wfI_u8.2 ⟨by omega, by omega⟩
      · exact wfI_u8.2 ⟨by omega, by omega⟩
    obtain ⟨g', hg⟩ := gl_bad ⟨name % 32768, [] ++ r⟩ (at' % 128) (by omega) (by omega) (by simp; omega)
    rw [groups_eq _ _ (by omega) (fun c hc => by
      rcases List.mem_append.1 hc with hc | hc
      · exact gs_wf r c hc
      · exact hw c hc) (by simp; omega), gl_many ⟨name % 32768, []⟩ r _ hk hw (by simp; omega), hg, awake_true]
    rw [Int.tmod_eq_emod_of_nonneg (by omega : 0 ≤ at' % 256)]
    have hstep : ∀ k : Fin 5, (segs_Step (k.val : Int)).bind (fun r_6 => (idx ([1, 1, 2, 16, 256] : List Int) (k.val : Int)).bind fun z_3 => some (r_6 == z_3)) = some true := by
      intro k; match k with
      | ⟨0, _⟩ => rfl
      | ⟨1, _⟩ => rfl
      | ⟨2, _⟩ => rfl
      | ⟨3, _⟩ => rfl
      | ⟨4, _⟩ => rfl
    obtain ⟨k, hk5⟩ : ∃ k : Fin 5, at' % 256 % 5 = (k.val : Int) := ⟨⟨(at' % 256 % 5).toNat, by omega⟩, by simp only; omega⟩
    rw [hk5, wrap64 (n := 5 + at' % 8) (by omega) (by omega)]
    have h7 : segs_Step (5 + at' % 8) = some 1 := by
      unfold segs_Step
      rw [if_neg (by simp; omega), if_neg (by simp; omega), if_neg (by simp; omega)]
    rw [h7]
    match k with
    | ⟨0, _⟩ => rfl
    | ⟨1, _⟩ => rfl
    | ⟨2, _⟩ => rfl
    | ⟨3, _⟩ => rfl
    | ⟨4, _⟩ => rfl
  · unfold hansomlaw21_SegsGroup_l35
    by_cases hlt : i < (r.length : Int)
    · left
      simp only [hlt, decide_true, if_true, idx_eq hi.1 hlt, Option.bind_some, bne_self_eq_false, Bool.false_eq_true, if_false, wrap64 (n := i + 1) (by omega) (by omega)]
      exact ⟨_, rfl, ⟨by omega, by omega⟩, by omega, trivial⟩
    · right
      simp [hlt]
end Go.Es.Seg
