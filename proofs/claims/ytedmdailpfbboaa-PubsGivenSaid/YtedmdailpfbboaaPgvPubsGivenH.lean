/- The law PubsGiven in plain Lean. No condition. -/
import Derived.Test.YtedmdailpfbboaaPgvH
set_option linter.unusedVariables false
set_option linter.unusedSimpArgs false
set_option maxHeartbeats 1000000
namespace Go.Es.Pgv
theorem and15 (x : Int) : bitsOp .and .i64 x 32767 = x % 32768 := and_mask x 15 (by omega)
theorem and9 (x : Int) : bitsOp .and .i64 x 511 = x % 512 := and_mask x 9 (by omega)
/-- what the law holds of a list of publics: all share the group, the segment and the frame -/
def good (g s f : Int) (l : List Pub) : Prop := l.length ≤ 8 ∧ ∀ p ∈ l, okP p ∧ p.Group = g ∧ p.Seg = s ∧ p.Frame = f
theorem same_map {g s f : Int} {l : List Pub} (h : ∀ p ∈ l, p.Group = g ∧ p.Seg = s ∧ p.Frame = f) : l.map (asP ⟨g, s, f, [], 0⟩) = l := by
  conv => rhs; rw [← List.map_id l]
  apply List.map_congr_left
  intro p hp
  obtain ⟨h1, h2, h3⟩ := h p hp
  obtain ⟨a, b, c, d, e⟩ := p
  simp only at h1 h2 h3
  subst h1 h2 h3; rfl
theorem given_full {g s f : Int} {l : List Pub} (h : good g s f l) (hn : l ≠ []) (h0 : 0 ≤ g ∧ g ≤ 32767) (h1 : 0 ≤ s ∧ s ≤ 32767) (h2 : 0 ≤ f ∧ f ≤ 65535) (h3 : s ≠ 0 → f = 0) :
    pubs_Given (body l) = some (l, 0) := by
  cases l with
  | nil => exact absurd rfl hn
  | cons p l =>
    obtain ⟨hl, hp⟩ := h
    have hk : ∀ q ∈ p :: l, okP q := fun q hq => (hp q hq).1
    obtain ⟨_, e1, e2, e3⟩ := hp p (by simp)
    subst e1 e2 e3
    have := given_body p ((p :: l).flatMap one) h0 h1 h2 h3 (ones_wf hk) (by have := ones_length _ hk; omega)
    unfold body
    simp only
    rw [this]
    have g2 := gl_many ⟨p.Group, p.Seg, p.Frame, [], 0⟩ (p :: l) [] [] hk (by simp) (by simp at hl ⊢; omega)
    rw [List.append_nil] at g2
    rw [g2, gl_end, same_map (fun q hq => (hp q hq).2)]
    simp
theorem body_last {l : List Pub} (hn : l ≠ []) : ∃ k p, l = k ++ [p] := by
  rcases List.eq_nil_or_concat l with h | ⟨k, p, h⟩
  · exact absurd h hn
  · exact ⟨k, p, by simpa using h⟩
theorem given_cut {g s f : Int} {l : List Pub} (h : good g s f l) (hn : l ≠ []) (h0 : 0 ≤ g ∧ g ≤ 32767) (h1 : 0 ≤ s ∧ s ≤ 32767) (h2 : 0 ≤ f ∧ f ≤ 65535) (h3 : s ≠ 0 → f = 0) :
    pubs_Given ((body l).take ((body l).length - 1)) = some ([], 2) := by
  obtain ⟨k, p, rfl⟩ := body_last hn
  obtain ⟨hl, hp⟩ := h
  rw [List.length_append, List.length_singleton] at hl
  have hk : ∀ q ∈ k, okP q := fun q hq => (hp q (by simp [hq])).1
  have hpp := hp p (by simp)
  have hq : ∃ q : Pub, body (k ++ [p]) = hd q ++ (k.flatMap one ++ one p) ∧ q.Group = g ∧ q.Seg = s ∧ q.Frame = f := by
    cases k with
    | nil => exact ⟨p, by simp [body], hpp.2⟩
    | cons q k => exact ⟨q, by simp [body], (hp q (by simp)).2⟩
  obtain ⟨q, hb, e1, e2, e3⟩ := hq
  subst e1 e2 e3
  have ht : (body (k ++ [p])).take ((body (k ++ [p])).length - 1) = hd q ++ (k.flatMap one ++ (enc p.Name ++ le p.Off 2)) := by
    rw [hb]
    have : hd q ++ (k.flatMap one ++ one p) = (hd q ++ (k.flatMap one ++ (enc p.Name ++ le p.Off 2))) ++ [0] := by simp [one]
    rw [this, List.length_append, List.length_singleton, Nat.add_sub_cancel, List.take_left]
  have hw : ∀ c ∈ enc p.Name ++ le p.Off 2, wfI .u8 c := by
    intro c hc
    rcases List.mem_append.1 hc with hc | hc
    · exact enc_wf _ (by have := hpp.1.1; omega) c hc
    · exact le_wf _ _ _ hc
  have hol := ones_length k hk
  have hpl := hpp.1.1
  rw [ht, given_body q _ h0 h1 h2 h3 (fun c hc => by
    rcases List.mem_append.1 hc with hc | hc
    · exact ones_wf hk c hc
    · exact hw c hc) (by simp only [List.length_append, enc_length, le_length]; omega), gl_many _ k _ [] hk hw (by simp; omega), gl_cut _ p _ hpp.1 (by simp; omega)]
  rfl
theorem awake_true : hansomlaw22_awake = some true := by
  have hg : good 1 2 0 [⟨1, 2, 0, [65], 7⟩] := ⟨by simp, fun p hp => by
    simp only [List.mem_singleton] at hp; subst hp
    exact ⟨⟨by simp, by simp, by simp, by simp, by simp⟩, rfl, rfl, rfl⟩⟩
  unfold hansomlaw22_awake
  rw [publics_spec _ (by simp) (fun p hp => (hg.2 p hp).1), Option.bind_some]
  simp only
  rw [given_full hg (by simp) (by omega) (by omega) (by omega) (by omega), Option.bind_some]
  rfl
theorem pick_spec (base : Pub) (l : List Pub) (hb : Pub.wf base) (hw : wfL Pub.wf l) :
    ∃ g s f r, loopO (fun x : ((List Pub) × Int) => hansomlaw22_PubsGiven_l8 base x.1 l x.2) (([] : List Pub), 0) = some r ∧ good g s f r ∧ (0 ≤ g ∧ g ≤ 32767) ∧ (0 ≤ s ∧ s ≤ 32767) ∧ (0 ≤ f ∧ f ≤ 65535) ∧ (s ≠ 0 → f = 0) := by
  have hf := wfI_u16.1 hb.2.2.1
  obtain ⟨s, f, hs, hf2, h3, step⟩ : ∃ s f : Int, (0 ≤ s ∧ s ≤ 32767) ∧ (0 ≤ f ∧ f ≤ 65535) ∧ (s ≠ 0 → f = 0) ∧ ∀ (o : List Pub) (i : Int) (hi : i < (l.length : Int)) (h0 : 0 ≤ i), i < 8 → o.length ≤ 8 →
      hansomlaw22_PubsGiven_l8 base o l i = some (.next (o ++ [Pub.mk (base.Group % 32768) s f ((l[i.toNat]'(by omega)).Name.take 40) (l[i.toNat]'(by omega)).Off], i + 1)) := by
    have gr : ∀ (o : List Pub) (p : Pub), o.length ≤ 8 → grow 48 o [p] = some (o ++ [p]) := fun o p ho => grow_eq (by simp; omega) (by simp; omega)
    have cm : ∀ s : List UInt8, cutL s 0 (mnI (s.length : Int) 40) = some (s.take 40) := fun s => cut_min s 40
    by_cases h1 : (bitsOp .and .u16 base.Off 1) = 0
    · refine ⟨0, base.Frame, by omega, hf, fun h => absurd rfl h, fun o i hi h0 h8 ho => ?_⟩
      unfold hansomlaw22_PubsGiven_l8
      simp only [hi, h8, decide_true, if_true, idx_eq h0 hi, Option.bind_some, cm, h1, beq_self_eq_true, gr _ _ ho, wrap64 (n := i + 1) (by omega) (by omega), and15]
    · by_cases h2 : base.Seg % 512 = 0
      · refine ⟨0, base.Frame, by omega, hf, fun h => absurd rfl h, fun o i hi h0 h8 ho => ?_⟩
        unfold hansomlaw22_PubsGiven_l8
        simp only [hi, h8, decide_true, if_true, idx_eq h0 hi, Option.bind_some, cm, beq_iff_eq, h1, if_false, and9, h2, gr _ _ ho, wrap64 (n := i + 1) (by omega) (by omega), and15]
      · refine ⟨base.Seg % 512, 0, by omega, by omega, fun _ => rfl, fun o i hi h0 h8 ho => ?_⟩
        unfold hansomlaw22_PubsGiven_l8
        simp only [hi, h8, decide_true, if_true, idx_eq h0 hi, Option.bind_some, cm, beq_iff_eq, h1, if_false, and9, h2, gr _ _ ho, wrap64 (n := i + 1) (by omega) (by omega), and15]
  have key := loop_rule (f := fun x : (List Pub) × Int => hansomlaw22_PubsGiven_l8 base x.1 l x.2)
    (fun x => 0 ≤ x.2 ∧ x.2 ≤ 8 ∧ x.2 ≤ l.length ∧ (x.1.length : Int) = x.2 ∧ ∀ p ∈ x.1, okP p ∧ p.Group = base.Group % 32768 ∧ p.Seg = s ∧ p.Frame = f) (fun x => (8 - x.2).toNat)
    (good (base.Group % 32768) s f) (fun x hx => by
      obtain ⟨o, i⟩ := x
      obtain ⟨h0, h1, h2, h3, h4⟩ := hx
      simp only at h0 h1 h2 h3 h4 ⊢
      by_cases hi : i < (l.length : Int)
      · by_cases h8 : i < 8
        · left
          refine ⟨_, step o i hi h0 h8 (by omega), ⟨by simp only; omega, by simp only; omega, by simp only; omega, by simp only [List.length_append, List.length_singleton]; omega, fun p hp => ?_⟩, by simp only; omega⟩
          simp only [List.mem_append, List.mem_singleton] at hp
          rcases hp with hp | rfl
          · exact h4 p hp
          · have hw := hw.2 _ (List.getElem_mem (l := l) (n := i.toNat) (by omega))
            have ho := wfI_u16.1 hw.2.2.2.2
            exact ⟨⟨by simp; omega, ho.1, ho.2, hf2.1, hf2.2⟩, rfl, rfl, rfl⟩
        · right
          exact ⟨o, by unfold hansomlaw22_PubsGiven_l8; simp [hi, h8], by omega, h4⟩
      · right
        exact ⟨o, by unfold hansomlaw22_PubsGiven_l8; simp [hi], by omega, h4⟩) (x := ([], 0)) ⟨by simp, by simp, by simp, by simp, by simp⟩
  obtain ⟨r, hr, hg⟩ := key
  exact ⟨_, s, f, r, hr, hg, by omega, hs, hf2, h3⟩
theorem pubsGiven_true (l : List Pub) (base : Pub) (w0 : wfL Pub.wf l) (w1 : Pub.wf base) : hansomlaw22_PubsGiven l base = some true := by
  obtain ⟨g, s, f, r, hr, hg, h0, h1, h2, h3⟩ := pick_spec base l w1 w0
  have hok : ∀ p ∈ r, okP p := fun p hp => (hg.2 p hp).1
  have hlen := hg.1
  unfold hansomlaw22_PubsGiven
  rw [hr, Option.bind_some, publics_spec r (by omega) hok, Option.bind_some, ref_publics r (by omega) hok, Option.bind_some, awake_true]
  simp only [bne_self_eq_false, Bool.false_eq_true, if_false, Option.bind_some, if_true]
  by_cases hn : r = []
  · subst hn; rfl
  · have hr0 : 0 < r.length := List.length_pos_iff.2 hn
    have hc : (((r.length : Int) == 0) = true) = False := by simp; omega
    have hbl := body_length r hok
    have hb1 : 1 ≤ (body r).length := by
      obtain ⟨k, p, rfl⟩ := body_last hn
      have : (one p).length ≤ (body (k ++ [p])).length := by unfold body; simp; omega
      rw [one_length] at this; omega
    simp only [hc, if_false]
    rw [given_full hg hn h0 h1 h2 h3, Option.bind_some]
    simp only [bne_self_eq_false, Bool.false_eq_true, if_false]
    rw [loop_to (f := fun x : Int => hansomlaw22_PubsGiven_l65 ⟨144, body r⟩ r r x) (fun _ => (.inr () : Bool ⊕ Unit)) (fun i => 0 ≤ i ∧ i ≤ r.length) (fun i => (r.length - i).toNat) (fun i hi => ?_) ⟨by omega, by omega⟩, Option.bind_some]
    · simp only
      rw [wrap64 (by omega) (by omega), show ((body r).length : Int) - 1 = (((body r).length - 1 : Nat) : Int) by omega, cut_to _ (by omega), Option.bind_some, given_cut hg hn h0 h1 h2 h3]
      rfl
    · unfold hansomlaw22_PubsGiven_l65
      by_cases hlt : i < (r.length : Int)
      · left
        simp only [hlt, decide_true, if_true, idx_eq hi.1 hlt, Option.bind_some, beq_self_eq_true, Bool.and_self, Bool.not_true, Bool.false_eq_true, if_false, wrap64 (n := i + 1) (by omega) (by omega)]
        exact ⟨_, rfl, ⟨by omega, by omega⟩, by omega, trivial⟩
      · right
        simp [hlt]
end Go.Es.Pgv
