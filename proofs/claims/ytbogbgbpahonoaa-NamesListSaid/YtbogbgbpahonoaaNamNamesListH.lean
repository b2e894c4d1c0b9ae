/- Names, one behind the other, there and back: in plain Lean. No condition. -/
import Derived.Test.YtbogbgbpahonoaaNamH
set_option linter.unusedVariables false
set_option linter.unusedSimpArgs false
set_option maxHeartbeats 1000000
namespace Go.Es.Nam

def encs (x : List (List UInt8)) : List Int := x.flatMap enc
theorem encs_cons (s : List UInt8) (x : List (List UInt8)) : encs (s :: x) = enc s ++ encs x := rfl
theorem encs_append (x y : List (List UInt8)) : encs (x ++ y) = encs x ++ encs y := by simp [encs]
theorem encs_one (s : List UInt8) : encs [s] = enc s := by simp [encs]
theorem encs_wf (x : List (List UInt8)) (h : ∀ s ∈ x, s.length ≤ 40) : ∀ c ∈ encs x, wfI .u8 c := by
  intro c hc
  simp only [encs, List.mem_flatMap] at hc
  obtain ⟨s, hs, hc⟩ := hc
  simp only [enc, List.mem_cons] at hc
  rcases hc with rfl | hc
  · have := h s hs
    exact wfI_u8.2 ⟨by omega, by omega⟩
  · exact s2b_wf s c hc
theorem encs_length (x : List (List UInt8)) (h : ∀ s ∈ x, s.length ≤ 40) : (encs x).length ≤ 41 * x.length := by
  induction x with
  | nil => simp [encs]
  | cons s x ih =>
    rw [encs_cons, List.length_append, enc_length, List.length_cons]
    have := ih fun s hs => h s (by simp [hs])
    have := h s (by simp)
    omega

theorem list_spec (x : List (List UInt8)) (hn : x.length ≤ 12) (h : ∀ s ∈ x, s.length ≤ 40) : names_List x = some ⟨150, encs x⟩ := by
  unfold names_List
  have := loop_to (f := fun y : Record × Int => names_List_l8 y.1 0 x (x.length : Int) y.2) (fun _ => (⟨150, encs x⟩ : Record))
    (fun y => 0 ≤ y.2 ∧ y.2 ≤ x.length ∧ y.1 = ⟨150, encs (x.take y.2.toNat)⟩) (fun y => (x.length - y.2).toNat) (fun y hy => by
      obtain ⟨r, i⟩ := y
      obtain ⟨h0, h1, h2⟩ := hy
      simp only at h0 h1 h2 ⊢
      subst h2
      unfold names_List_l8
      by_cases hi : i < (x.length : Int)
      · left
        have hlt : i.toNat < x.length := by omega
        have hs : (x[i.toNat]'hlt).length ≤ 40 := h _ (List.getElem_mem hlt)
        have hl := encs_length (x.take i.toNat) fun s hs => h s (List.mem_of_mem_take hs)
        rw [List.length_take] at hl
        have w1 : IntKind.wrap .i64 (i + 1) = i + 1 := wrap64 (by omega) (by omega)
        have e : (i + 1).toNat = i.toNat + 1 := by omega
        rw [idx_eq h0 hi, Option.bind_some, name_spec _ (by omega), Option.bind_some]
        simp only
        rw [grow_eq (by rw [enc_length]; omega) (by rw [enc_length]; omega)]
        refine ⟨(⟨150, encs (x.take (i.toNat + 1))⟩, i + 1), ?_, ⟨by simp only; omega, by simp only; omega, by simp only [e]⟩, by simp only; omega, trivial⟩
        have : x.take (i.toNat + 1) = x.take i.toNat ++ [x[i.toNat]'hlt] := by rw [List.take_add_one, List.getElem?_eq_getElem hlt]; rfl
        rw [this, encs_append, encs_one]
        simp [hi, w1]
      · right
        have : i.toNat = x.length := by omega
        simp [hi, this]) (x := (⟨150, []⟩, 0)) ⟨by simp, by simp, by simp [encs]⟩
  rw [this]; rfl

theorem left_pos (c : Int) (r : List Int) : decide (((c :: r).length : Int) > 0) = true := by
  simp only [decide_eq_true_eq, List.length_cons]; omega

theorem l8_full (s : List UInt8) (r : List Int) (out : List (List UInt8)) (hs : s.length ≤ 255) (hn : out.length ≤ 100) : names_Names_l8 ⟨enc s ++ r, 0⟩ out = some (.next (⟨r, 0⟩, out ++ [s])) := by
  simp only [names_Names_l8, index_Source_Left, Option.bind_some]
  have : decide (((enc s ++ r).length : Int) > 0) = true := left_pos _ _
  rw [if_pos this, enc_name s hs, Option.bind_some, grow_eq (by simp; omega) (by simp; omega)]; rfl
theorem l8_short (c : Int) (r : List Int) (out : List (List UInt8)) (h0 : 0 ≤ c) (h1 : c ≤ 255) (h2 : r.length < c.toNat) (hn : out.length ≤ 100) : names_Names_l8 ⟨c :: r, 0⟩ out = some (.next (⟨[], 2⟩, out ++ [[]])) := by
  simp only [names_Names_l8, index_Source_Left, Option.bind_some]
  rw [if_pos (left_pos _ _), name_short _ _ h0 h1 h2, Option.bind_some, grow_eq (by simp; omega) (by simp; omega)]; rfl
theorem l8_nil (e : Int) (out : List (List UInt8)) : names_Names_l8 ⟨[], e⟩ out = some (.out (out, ⟨[], e⟩)) := by
  simp [names_Names_l8, index_Source_Left]

/-- all of them -/
theorem full_spec : ∀ (x out : List (List UInt8)), out.length + x.length ≤ 100 → (∀ s ∈ x, s.length ≤ 40) →
    loopO (fun y : Source × List (List UInt8) => names_Names_l8 y.1 y.2) (⟨encs x, 0⟩, out) = some (out ++ x, ⟨[], 0⟩)
  | [], out, _, _ => by
    rw [loopO_eq]
    simp only [encs, List.flatMap_nil, l8_nil, Option.bind_some, List.append_nil]
  | s :: x, out, hn, h => by
    have hs := h s (by simp)
    rw [List.length_cons] at hn
    rw [loopO_eq, encs_cons]
    simp only
    rw [l8_full s _ out (by omega) (by omega)]
    simp only [Option.bind_some]
    rw [full_spec x (out ++ [s]) (by rw [List.length_append]; simp; omega) fun s hs => h s (by simp [hs])]
    simp

/-- of some of the bytes, no more than there are -/
theorem part_spec : ∀ (x : List (List UInt8)) (k : Nat) (out : List (List UInt8)), out.length + x.length ≤ 100 → (∀ s ∈ x, s.length ≤ 40) →
    ∃ o e, loopO (fun y : Source × List (List UInt8) => names_Names_l8 y.1 y.2) (⟨(encs x).take k, 0⟩, out) = some (o, ⟨[], e⟩) ∧ (e = 2 ∨ e = 0 ∧ o.length ≤ out.length + x.length)
  | [], k, out, _, _ => by
    refine ⟨out, 0, ?_, .inr ⟨rfl, by simp⟩⟩
    rw [loopO_eq]
    simp only [encs, List.flatMap_nil, List.take_nil, l8_nil, Option.bind_some]
  | s :: x, k, out, hn, h => by
    have hs := h s (by simp)
    rw [List.length_cons] at hn
    rw [encs_cons]
    by_cases h0 : k = 0
    · subst h0
      refine ⟨out, 0, ?_, .inr ⟨rfl, by omega⟩⟩
      rw [loopO_eq]
      simp only [List.take_zero, l8_nil, Option.bind_some]
    by_cases h1 : (enc s).length ≤ k
    · obtain ⟨o, e, h2, h3⟩ := part_spec x (k - (enc s).length) (out ++ [s]) (by rw [List.length_append]; simp; omega) fun s hs => h s (by simp [hs])
      refine ⟨o, e, ?_, ?_⟩
      · rw [List.take_append, List.take_of_length_le h1, loopO_eq]
        simp only
        rw [l8_full s _ out (by omega) (by omega)]
        simp only [Option.bind_some]
        exact h2
      · rcases h3 with h3 | ⟨h3, h4⟩
        · exact .inl h3
        · refine .inr ⟨h3, ?_⟩
          rw [List.length_append] at h4
          simp at h4 ⊢
          omega
    · refine ⟨out ++ [[]], 2, ?_, .inl rfl⟩
      obtain ⟨j, rfl⟩ : ∃ j, k = j + 1 := ⟨k - 1, by omega⟩
      rw [enc_length] at h1
      have e1 : (enc s ++ encs x).take (j + 1) = (s.length : Int) :: (s2b s).take j := by
        rw [List.take_append_of_le_length (by rw [enc_length]; omega), enc, List.take_succ_cons]
      rw [e1, loopO_eq]
      simp only
      rw [l8_short _ _ out (by omega) (by omega) (by rw [List.length_take, s2b_length]; omega) (by omega)]
      simp only [Option.bind_some]
      rw [loopO_eq]
      simp only [l8_nil, Option.bind_some]

theorem build_spec (l : List (List UInt8)) (cut : Int) : ∃ x, x.length ≤ 12 ∧ (∀ s ∈ x, s.length ≤ 40) ∧
    loopO (fun x : List (List UInt8) × List UInt8 × Int => hansomlaw20_NamesList_l8 x.1 l cut x.2.1 x.2.2) ([], [], 0) = some (x, b2s (encs x)) := by
  obtain ⟨b, h1, x, h2, h3, rfl⟩ := loop_rule (f := fun x : List (List UInt8) × List UInt8 × Int => hansomlaw20_NamesList_l8 x.1 l cut x.2.1 x.2.2)
    (fun y => 0 ≤ y.2.2 ∧ y.2.2 ≤ 12 ∧ (y.1.length : Int) = y.2.2 ∧ (∀ s ∈ y.1, s.length ≤ 40) ∧ y.2.1 = b2s (encs y.1)) (fun y => (12 - y.2.2).toNat)
    (fun r => ∃ x, x.length ≤ 12 ∧ (∀ s ∈ x, s.length ≤ 40) ∧ r = (x, b2s (encs x))) (fun y hy => by
      obtain ⟨x, b, i⟩ := y
      obtain ⟨h0, h1, h2, h3, h4⟩ := hy
      simp only at h0 h1 h2 h3 h4 ⊢
      subst h4
      unfold hansomlaw20_NamesList_l8
      by_cases hi : i < (l.length : Int)
      · by_cases h12 : i < 12
        · left
          have w1 : IntKind.wrap .i64 (i + 1) = i + 1 := wrap64 (by omega) (by omega)
          simp only [hi, h12, decide_true, if_true, idx_eq h0 hi, Option.bind_some]
          rw [show (40 : Int) = ((40 : Nat) : Int) from rfl, cut_min, Option.bind_some]
          have hs : ((l[i.toNat]'(by omega)).take 40).length ≤ 40 := by rw [List.length_take]; omega
          generalize (l[i.toNat]'(by omega)).take 40 = s at hs
          have hl := encs_length x h3
          have h3' : ∀ u ∈ x ++ [s], u.length ≤ 40 := fun u hu => by
            rcases List.mem_append.1 hu with hu | hu
            · exact h3 u hu
            · rw [List.mem_singleton] at hu; subst hu; exact hs
          rw [grow_eq (by simp; omega) (by simp; omega), Option.bind_some, idx_eq h0 (by rw [List.length_append]; simp; omega), Option.bind_some]
          have hg : (x ++ [s])[i.toNat]'(by rw [List.length_append]; simp; omega) = s := by
            rw [List.getElem_append_right (by omega)]; simp
          rw [hg, ref_spec _ (by omega), Option.bind_some, catS_eq (by rw [b2s_length, b2s_length, enc_length]; omega), Option.bind_some, w1]
          exact ⟨_, rfl, ⟨by simp only; omega, by simp only; omega, by simp only [List.length_append]; simp; omega, h3', by simp only [encs_append, encs_one, b2s_append]⟩, by simp only; omega⟩
        · exact .inr ⟨_, by simp [hi, h12], x, by omega, h3, rfl⟩
      · exact .inr ⟨_, by simp [hi], x, by omega, h3, rfl⟩) (x := ([], [], 0)) ⟨by simp, by simp, by simp, by simp, by simp [encs, b2s]⟩
  exact ⟨x, h2, h3, h1⟩

theorem namesList_true (l : List (List UInt8)) (cut : Int) (hl : wfL wfS l) (hc : wfI .i64 cut) : hansomlaw20_NamesList l cut = some true := by
  unfold hansomlaw20_NamesList
  obtain ⟨x, hn, h, hb⟩ := build_spec l cut
  rw [hb, Option.bind_some]
  simp only
  have hlen := encs_length x h
  have hw := s2b_b2s (encs_wf x h)
  have nf : names_Names (encs x) = some (x, 0) := by
    unfold names_Names
    rw [from_spec _ (by omega), Option.bind_some, full_spec x [] (by simp; omega) h]
    simp [index_Source_Err]
  rw [list_spec x hn h, Option.bind_some, hw, nf, Option.bind_some]
  have hloop : loopO (fun y : Int => hansomlaw20_NamesList_l37 x cut (b2s (encs x)) x y) 0 = some (.inr ()) := by
    refine loop_to (f := fun y : Int => hansomlaw20_NamesList_l37 x cut (b2s (encs x)) x y) (fun _ => .inr ()) (fun i => 0 ≤ i ∧ i ≤ x.length) (fun i => (x.length - i).toNat) (fun i hi => ?_) (by simp)
    obtain ⟨h0, h1⟩ := hi
    unfold hansomlaw20_NamesList_l37
    by_cases hi : i < (x.length : Int)
    · have w1 : IntKind.wrap .i64 (i + 1) = i + 1 := wrap64 (by omega) (by omega)
      rw [idx_eq h0 hi]
      exact .inl ⟨i + 1, by simp [hi, w1], ⟨by omega, by omega⟩, by omega, rfl⟩
    · exact .inr (by simp [hi])
  rw [hloop]
  simp only [Option.bind_some, bne_self_eq_false, Bool.false_eq_true, if_false]
  have w2 : IntKind.wrap .i64 (((b2s (encs x)).length : Int) + 1) = ((encs x).length : Int) + 1 := by rw [b2s_length, wrap64 (by omega) (by omega)]
  have ha : bitsOp .and .i64 cut 65535 = cut % 65536 := and_mask cut 16 (by omega)
  rw [w2, ha]
  have hr : remI .i64 (cut % 65536) (((encs x).length : Int) + 1) = some (Int.tmod (cut % 65536) (((encs x).length : Int) + 1)) := by
    unfold remI; rw [if_neg (by omega)]
  rw [hr, Option.bind_some]
  have hm0 : 0 ≤ Int.tmod (cut % 65536) (((encs x).length : Int) + 1) := Int.tmod_nonneg _ (by omega)
  have hm1 : Int.tmod (cut % 65536) (((encs x).length : Int) + 1) < ((encs x).length : Int) + 1 := Int.tmod_lt_of_pos _ (by omega)
  generalize Int.tmod (cut % 65536) (((encs x).length : Int) + 1) = m at hm0 hm1
  obtain ⟨k, rfl⟩ : ∃ k : Nat, m = k := ⟨m.toNat, by omega⟩
  rw [cut_to _ (by rw [b2s_length]; omega), Option.bind_some, s2b_take, hw]
  obtain ⟨o, e, h1, h2⟩ := part_spec x k [] (by simp; omega) h
  have np : names_Names ((encs x).take k) = some (if e = 0 then (o, 0) else ([], e)) := by
    unfold names_Names
    rw [from_spec _ (by rw [List.length_take]; omega), Option.bind_some, h1]
    by_cases he : e = 0 <;> simp [index_Source_Err, he]
  rw [np, awake_true]
  rcases h2 with rfl | ⟨rfl, h2⟩
  · simp
  · simp at h2 ⊢; omega
end Go.Es.Nam
