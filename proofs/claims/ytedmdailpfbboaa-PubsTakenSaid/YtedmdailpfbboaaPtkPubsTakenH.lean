/- The law PubsTaken in plain Lean. No condition. -/
import Derived.Test.YtedmdailpfbboaaPtkH
set_option linter.unusedVariables false
set_option linter.unusedSimpArgs false
set_option maxHeartbeats 1000000
namespace Go.Es.Ptk
/-! ### externals -/
def xone (s : List UInt8) : List Int := enc s ++ [0]
def xs (l : List (List UInt8)) : List Int := l.flatMap xone
theorem xone_length (s : List UInt8) : (xone s).length = s.length + 2 := by simp [xone, enc_length]
theorem xs_length (l : List (List UInt8)) (h : ∀ s ∈ l, s.length ≤ 40) : (xs l).length ≤ 42 * l.length := by
  unfold xs
  induction l with
  | nil => simp
  | cons p l ih =>
    have h1 := h p (by simp)
    have h2 := ih (fun q hq => h q (by simp [hq]))
    rw [List.flatMap_cons, List.length_append, xone_length, List.length_cons]; omega
theorem xs_app (l : List (List UInt8)) (s : List UInt8) : xs (l ++ [s]) = xs l ++ xone s := by simp [xs]
theorem xone_wf {s : List UInt8} (h : s.length ≤ 40) : ∀ c ∈ xone s, wfI .u8 c := by
  intro c hc
  rcases List.mem_append.1 hc with hc | hc
  · exact enc_wf _ (by omega) c hc
  · simp only [List.mem_singleton] at hc; subst hc; exact wfI_u8.2 ⟨by omega, by omega⟩
theorem xs_wf {l : List (List UInt8)} (h : ∀ s ∈ l, s.length ≤ 40) : ∀ c ∈ xs l, wfI .u8 c := by
  intro c hc
  obtain ⟨p, hp, hc⟩ := List.mem_flatMap.1 hc
  exact xone_wf (h p hp) c hc
theorem take_succ' {l : List (List UInt8)} {i : Nat} (h : i < l.length) : l.take (i + 1) = l.take i ++ [l[i]] := by
  rw [List.take_add_one, List.getElem?_eq_getElem h]; rfl
theorem externals_spec (l : List (List UInt8)) (hl : l.length ≤ 1000) (h : ∀ s ∈ l, s.length ≤ 40) : pubs_Externals l = some ⟨140, xs l⟩ := by
  unfold pubs_Externals
  rw [loop_to (f := fun x : Record × Int => pubs_Externals_l8 x.1 0 l (l.length : Int) x.2) (fun _ => (⟨140, xs l⟩ : Record))
    (fun x => 0 ≤ x.2 ∧ x.2 ≤ l.length ∧ x.1 = ⟨140, xs (l.take x.2.toNat)⟩) (fun x => (l.length - x.2).toNat) (fun x hx => ?_) ⟨by simp, by simp, by simp [xs]⟩]
  · rfl
  · obtain ⟨r, i⟩ := x
    obtain ⟨h0, h1, h2⟩ := hx
    simp only at h0 h1 h2 ⊢
    subst h2
    unfold pubs_Externals_l8
    by_cases hi : i < (l.length : Int)
    · left
      have hlt : i.toNat < l.length := by omega
      have hp := h _ (List.getElem_mem hlt)
      have hbl := xs_length (l.take i.toNat) (fun p hp => h p (List.mem_of_mem_take hp))
      rw [List.length_take] at hbl
      have e : (i + 1).toNat = i.toNat + 1 := by omega
      simp only [hi, decide_true, if_true, idx_eq h0 hi, Option.bind_some, name_spec _ (show (l[i.toNat]'hlt).length ≤ 255 by omega)]
      rw [grow_eq (by simp [enc_length]; omega) (by simp [enc_length]; omega), Option.bind_some, grow_eq (by simp [enc_length]; omega) (by simp [enc_length]; omega), Option.bind_some, wrap64 (by omega) (by omega)]
      refine ⟨_, rfl, ⟨by simp only; omega, by simp only; omega, ?_⟩, by simp only; omega, trivial⟩
      simp only [e, take_succ' hlt, xs_app, xone, List.append_assoc]
    · right
      have : i.toNat = l.length := by omega
      simp [hi, this]
def asX (s : List UInt8) : Ext := ⟨s, 0, 0⟩
noncomputable def tl (x : Source × List Ext) := loopO (fun x : (Source × (List Ext)) => pubs_Taken_l8 x.1 x.2) x
theorem tl_end (e : Int) (out : List Ext) : tl (⟨[], e⟩, out) = some (out, ⟨[], e⟩) := by
  unfold tl
  rw [loopO_eq]
  rfl
theorem tl_one (s : List UInt8) (t : List Int) (out : List Ext) (hs : s.length ≤ 40) (ho : out.length ≤ 1000) : tl (⟨xone s ++ t, 0⟩, out) = tl (⟨t, 0⟩, out ++ [asX s]) := by
  unfold tl
  rw [loopO_eq]
  have hlen : ((xone s ++ t).length : Int) > 0 := by rw [List.length_append, xone_length]; omega
  have e0 : xone s ++ t = enc s ++ ([0] ++ t) := by simp [xone]
  have hi : index_Source_Index ⟨[0] ++ t, 0⟩ = some (0, ⟨t, 0⟩) := index_one 0 t 0 (by omega) (by omega)
  have : pubs_Taken_l8 ⟨xone s ++ t, 0⟩ out = some (.next (⟨t, 0⟩, out ++ [asX s])) := by
    unfold pubs_Taken_l8
    simp only [index_Source_Left, Option.bind_some, hlen, decide_true, if_true]
    rw [e0, enc_name _ (by omega), Option.bind_some, grow_eq (by simp; omega) (by simp; omega), Option.bind_some, hi]
    rfl
  simp only [this]; rfl
theorem tl_bad (t : List Int) (nm : List UInt8) (s' : Source) (out : List Ext) (ht : t ≠ []) (h1 : index_Source_Name ⟨t, 0⟩ = some (nm, s')) (h2 : index_Source_Index s' = some (0, ⟨[], 2⟩)) (ho : out.length ≤ 1000) :
    tl (⟨t, 0⟩, out) = some (out ++ [asX nm], ⟨[], 2⟩) := by
  have hlen : (t.length : Int) > 0 := by have := List.length_pos_iff.2 ht; omega
  have : pubs_Taken_l8 ⟨t, 0⟩ out = some (.next (⟨[], 2⟩, out ++ [asX nm])) := by
    unfold pubs_Taken_l8
    simp only [index_Source_Left, Option.bind_some, hlen, decide_true, if_true]
    rw [h1, Option.bind_some, grow_eq (by simp; omega) (by simp; omega), Option.bind_some, h2]
    rfl
  rw [← tl_end 2]
  unfold tl
  rw [loopO_eq]
  simp only [this]; rfl
theorem tl_take (l : List (List UInt8)) (h : ∀ s ∈ l, s.length ≤ 40) (m : Nat) (out : List Ext) (ho : out.length + l.length ≤ 1000) :
    ∃ o e, tl (⟨(xs l).take m, 0⟩, out) = some (o, ⟨[], e⟩) ∧ (e = 0 ∧ o.length ≤ out.length + l.length ∨ e = 2) := by
  induction l generalizing m out with
  | nil => exact ⟨out, 0, by simp [xs, tl_end], .inl ⟨rfl, by simp⟩⟩
  | cons s l ih =>
    have hs := h s (by simp)
    rw [List.length_cons] at ho
    have e0 : xs (s :: l) = xone s ++ xs l := rfl
    by_cases hm : (xone s).length ≤ m
    · obtain ⟨k, rfl⟩ : ∃ k, m = (xone s).length + k := ⟨m - (xone s).length, by omega⟩
      obtain ⟨o, e, h1, h2⟩ := ih (fun q hq => h q (by simp [hq])) k (out ++ [asX s]) (by simp; omega)
      refine ⟨o, e, ?_, ?_⟩
      · rw [e0, List.take_length_add_append, tl_one s _ _ hs (by omega), h1]
      · simp only [List.length_append, List.length_cons, List.length_nil] at h2 ⊢; omega
    · rw [xone_length] at hm
      have e1 : (xs (s :: l)).take m = (xone s).take m := by rw [e0, List.take_append_of_le_length (by rw [xone_length]; omega)]
      rw [e1]
      by_cases m0 : m = 0
      · subst m0
        exact ⟨out, 0, by simp [tl_end], .inl ⟨rfl, by omega⟩⟩
      · by_cases m1 : m = s.length + 1
        · have e2 : (xone s).take m = enc s := by
            unfold xone; rw [m1, ← enc_length s, List.take_left]
          rw [e2]
          have hn := enc_name s (by omega) []
          rw [List.append_nil] at hn
          exact ⟨_, 2, tl_bad _ _ _ _ (by simp [enc]) hn index_nil (by omega), .inr rfl⟩
        · obtain ⟨k, rfl⟩ : ∃ k, m = k + 1 := ⟨m - 1, by omega⟩
          have e2 : (xone s).take (k + 1) = (s.length : Int) :: (s2b s).take k := by
            unfold xone enc
            rw [List.cons_append, List.take_succ_cons, List.take_append_of_le_length (by rw [s2b_length]; omega)]
          rw [e2]
          exact ⟨_, 2, tl_bad _ _ _ _ (by simp) (name_short _ _ (by omega) (by omega) (by rw [List.length_take, s2b_length]; omega)) index_end (by omega), .inr rfl⟩
theorem tl_all (l : List (List UInt8)) (h : ∀ s ∈ l, s.length ≤ 40) (out : List Ext) (ho : out.length + l.length ≤ 1000) :
    tl (⟨xs l, 0⟩, out) = some (out ++ l.map asX, ⟨[], 0⟩) := by
  induction l generalizing out with
  | nil => simp [xs, tl_end]
  | cons s l ih =>
    rw [List.length_cons] at ho
    rw [show xs (s :: l) = xone s ++ xs l from rfl, tl_one s _ _ (h s (by simp)) (by omega), ih (fun q hq => h q (by simp [hq])) _ (by simp; omega)]
    simp
theorem taken_eq (b : List Int) (hl : b.length ≤ 100000) : pubs_Taken b = (tl (⟨b, 0⟩, [])).bind fun e => if e.2.e != 0 then some ([], e.2.e) else some (e.1, 0) := by
  unfold pubs_Taken
  rw [from_spec _ (by omega), Option.bind_some]; rfl
theorem pickx (l : List (List UInt8)) (cut : Int) :
    ∃ r, loopO (fun x : ((List (List UInt8)) × (List UInt8) × Int) => hansomlaw22_PubsTaken_l8 x.1 l cut x.2.1 x.2.2) (([] : List (List UInt8)), ([] : List UInt8), 0) = some (r, b2s (xs r)) ∧ r.length ≤ 10 ∧ ∀ s ∈ r, s.length ≤ 40 := by
  have key := loop_rule (f := fun x : (List (List UInt8)) × (List UInt8) × Int => hansomlaw22_PubsTaken_l8 x.1 l cut x.2.1 x.2.2)
    (fun x => 0 ≤ x.2.2 ∧ x.2.2 ≤ 10 ∧ (x.1.length : Int) = x.2.2 ∧ (∀ s ∈ x.1, s.length ≤ 40) ∧ x.2.1 = b2s (xs x.1)) (fun x => (10 - x.2.2).toNat)
    (fun b => ∃ r, b = (r, b2s (xs r)) ∧ r.length ≤ 10 ∧ ∀ s ∈ r, s.length ≤ 40) (fun x hx => by
      obtain ⟨o, b, i⟩ := x
      obtain ⟨h0, h1, h2, h3, h4⟩ := hx
      simp only at h0 h1 h2 h3 h4 ⊢
      subst h4
      by_cases hi : i < (l.length : Int)
      · by_cases h8 : i < 10
        · left
          have hx := xs_length o h3
          have cm : ∀ s : List UInt8, cutL s 0 (mnI (s.length : Int) 40) = some (s.take 40) := fun s => cut_min s 40
          have hz : ((l[i.toNat]'(by omega)).take 40).length ≤ 40 := by simp; omega
          have hix : ∀ a : List UInt8, idx (o ++ [a]) i = some a := fun a => by rw [← h2, idx_nat (by simp)]; simp
          have he := enc_length ((l[i.toNat]'(by omega)).take 40)
          have st : hansomlaw22_PubsTaken_l8 o l cut (b2s (xs o)) i = some (.next (o ++ [(l[i.toNat]'(by omega)).take 40], b2s (xs o) ++ (b2s (enc ((l[i.toNat]'(by omega)).take 40)) ++ [0]), i + 1)) := by
            unfold hansomlaw22_PubsTaken_l8
            simp only [hi, h8, decide_true, if_true, idx_eq h0 hi, Option.bind_some, cm]
            rw [grow_eq (by simp; omega) (by simp; omega), Option.bind_some, hix, Option.bind_some, ref_spec _ (by omega), Option.bind_some, catS_eq (by simp only [b2s_length, List.length_singleton]; omega), Option.bind_some,
              catS_eq (by simp only [b2s_length, List.length_singleton, List.length_append]; omega), Option.bind_some, wrap64 (by omega) (by omega)]
          refine ⟨_, st, ⟨by simp only; omega, by simp only; omega, by simp only [List.length_append, List.length_singleton]; omega, fun s hs => ?_, ?_⟩, by simp only; omega⟩
          · simp only [List.mem_append, List.mem_singleton] at hs
            rcases hs with hs | rfl
            · exact h3 s hs
            · exact hz
          · simp only [xs_app, b2s_append, xone]; rfl
        · right
          exact ⟨_, by unfold hansomlaw22_PubsTaken_l8; simp only [hi, h8, decide_true, decide_false, Bool.false_eq_true, if_true, if_false], o, rfl, by omega, h3⟩
      · right
        exact ⟨_, by unfold hansomlaw22_PubsTaken_l8; simp only [hi, decide_false, Bool.false_eq_true, if_false], o, rfl, by omega, h3⟩) (x := ([], [], 0)) ⟨by simp, by simp, by simp, by simp, by simp [xs, b2s]⟩
  obtain ⟨b, hb, r, rfl, h1, h2⟩ := key
  exact ⟨r, hb, h1, h2⟩
theorem pubsTaken_true (l : List (List UInt8)) (cut : Int) (w0 : wfL wfS l) (w1 : wfI .i64 cut) : hansomlaw22_PubsTaken l cut = some true := by
  obtain ⟨r, hr, hl, hs⟩ := pickx l cut
  have hx := xs_length r hs
  unfold hansomlaw22_PubsTaken
  rw [hr, Option.bind_some]
  simp only
  rw [externals_spec r (by omega) hs, Option.bind_some]
  simp only
  rw [taken_eq _ (by omega), tl_all r hs [] (by simp; omega)]
  have hm : (r.map asX).length = r.length := by simp
  have a16 : bitsOp .and .i64 cut 65535 = cut % 65536 := and_mask cut 16 (by omega)
  simp only [Option.bind_some, bne_self_eq_false, Bool.false_eq_true, if_false, List.nil_append, hm]
  rw [loop_to (f := fun x : Int => hansomlaw22_PubsTaken_l37 r cut (b2s (xs r)) (r.map asX) x) (fun _ => (.inr () : Bool ⊕ Unit)) (fun i => 0 ≤ i ∧ i ≤ r.length) (fun i => (r.length - i).toNat) (fun i hi => ?_) ⟨by omega, by omega⟩, Option.bind_some]
  · simp only [b2s_length, a16]
    rw [wrap64 (by omega) (by omega)]
    have c0 := Int.emod_nonneg cut (show (65536 : Int) ≠ 0 by decide)
    have t0 : 0 ≤ Int.tmod (cut % 65536) (((xs r).length : Int) + 1) := Int.tmod_nonneg _ c0
    have t1 : Int.tmod (cut % 65536) (((xs r).length : Int) + 1) < ((xs r).length : Int) + 1 := Int.tmod_lt_of_pos _ (by omega)
    have hrm : remI .i64 (cut % 65536) (((xs r).length : Int) + 1) = some (Int.tmod (cut % 65536) (((xs r).length : Int) + 1)) := by
      unfold remI; rw [if_neg (by omega)]
    obtain ⟨k, hk⟩ : ∃ k : Nat, Int.tmod (cut % 65536) (((xs r).length : Int) + 1) = (k : Int) := ⟨_, (Int.toNat_of_nonneg t0).symm⟩
    rw [hrm, Option.bind_some, hk, cut_to _ (by rw [b2s_length]; omega), Option.bind_some, s2b_take, s2b_b2s (xs_wf hs), awake_true]
    obtain ⟨o, e, h1, h2⟩ := tl_take r hs k [] (by simp; omega)
    rw [taken_eq _ (by rw [List.length_take]; omega), h1]
    rcases h2 with ⟨rfl, h2⟩ | rfl
    · simp at h2 ⊢; omega
    · simp
  · unfold hansomlaw22_PubsTaken_l37
    by_cases hlt : i < (r.length : Int)
    · left
      have hlt2 : i < ((r.map asX).length : Int) := by rw [hm]; exact hlt
      simp only [hlt, decide_true, if_true, idx_eq hi.1 hlt, idx_eq hi.1 hlt2, Option.bind_some, List.getElem_map, asX, beq_self_eq_true, Bool.and_self, Bool.not_true, Bool.false_eq_true, if_false, wrap64 (n := i + 1) (by omega) (by omega)]
      exact ⟨_, rfl, ⟨by omega, by omega⟩, by omega, trivial⟩
    · right
      simp [hlt]
end Go.Es.Ptk
