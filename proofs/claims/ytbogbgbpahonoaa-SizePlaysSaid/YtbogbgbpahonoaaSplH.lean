/- Places grow, once each, and stay so: in plain Lean. No condition. -/
import Derived.Test.YtbogbgbpahonoaaSplP
set_option linter.unusedVariables false
set_option linter.unusedSimpArgs false
set_option maxHeartbeats 1000000
namespace Go.Es.Spl

def can (b : List Bool) (n : Int) : Bool := decide (0 ≤ n) && (b[n.toNat]? == some false)
def isL (b : List Bool) (n : Int) : Bool := decide (0 ≤ n) && (b[n.toNat]? == some true)

theorem grow_spec (s : Sizes) (n : Int) : size_Sizes_Grow s n = some (if can s.long n then (true, ⟨s.long.set n.toNat true, true, s.pass⟩) else (false, s)) := by
  unfold size_Sizes_Grow can
  by_cases h0 : n < 0
  · have : ¬ 0 ≤ n := by omega
    simp [h0, this]
  · have h0' : 0 ≤ n := by omega
    by_cases h1 : (s.long.length : Int) ≤ n
    · have h2 : s.long[n.toNat]? = none := List.getElem?_eq_none (by omega)
      simp [h0, h0', h1, h2]
    · have hlt : n.toNat < s.long.length := by omega
      rw [idx_eq h0' (by omega)]
      cases hb : s.long[n.toNat]'hlt with
      | true => simp [h0, h0', h1, hb, hlt]
      | false => simp [h0, h0', h1, hb, hlt]

theorem long_spec (s : Sizes) (n : Int) : size_Sizes_Long s n = some (isL s.long n) := by
  unfold size_Sizes_Long isL
  by_cases h0 : n < 0
  · have : ¬ 0 ≤ n := by omega
    simp [h0, this]
  · have h0' : 0 ≤ n := by omega
    by_cases h1 : (s.long.length : Int) ≤ n
    · have h2 : s.long[n.toNat]? = none := List.getElem?_eq_none (by omega)
      have : ¬ n < (s.long.length : Int) := by omega
      simp [h0, h0', h1, h2, this]
    · have hlt : n.toNat < s.long.length := by omega
      have h1' : n < (s.long.length : Int) := by omega
      rw [idx_eq h0' (by omega)]
      cases hb : s.long[n.toNat]'hlt with
      | true => simp [h0, h0', h1, h1', hb, hlt]
      | false => simp [h0, h0', h1, h1', hb, hlt]

/-- how many are true -/
def many (b : List Bool) : Nat := b.countP id

theorem many_take {b : List Bool} {i : Nat} (h : i < b.length) : many (b.take (i + 1)) = many (b.take i) + (if b[i] then 1 else 0) := by
  unfold many
  rw [List.take_add_one, List.getElem?_eq_getElem h]
  simp only [List.countP_append, Option.toList_some, List.countP_cons, List.countP_nil, id, Nat.zero_add]

theorem many_le (b : List Bool) : many b ≤ b.length := List.countP_le_length

theorem count_spec (s : Sizes) (h : s.long.length ≤ 600) : size_Sizes_Count s = some (many s.long : Int) := by
  unfold size_Sizes_Count
  have := loop_to (f := fun x : Int × Int => size_Sizes_Count_l8 s x.1 x.2) (fun _ => (many s.long : Int))
    (fun x => 0 ≤ x.2 ∧ x.2 ≤ s.long.length ∧ x.1 = many (s.long.take x.2.toNat)) (fun x => (s.long.length - x.2).toNat) (fun x hx => by
      obtain ⟨n, i⟩ := x
      obtain ⟨h0, h1, h2⟩ := hx
      simp only at h0 h1 h2 ⊢
      unfold size_Sizes_Count_l8
      by_cases hi : i < (s.long.length : Int)
      · left
        have hlt : i.toNat < s.long.length := by omega
        have hm := many_take hlt
        have hle := many_le (s.long.take (i.toNat + 1))
        rw [List.length_take] at hle
        have e : (i + 1).toNat = i.toNat + 1 := by omega
        have w1 : IntKind.wrap .i64 (i + 1) = i + 1 := wrap64 (by omega) (by omega)
        rw [idx_eq h0 hi]
        cases hb : s.long[i.toNat]'hlt with
        | true =>
          rw [hb] at hm
          have w2 : IntKind.wrap .i64 (n + 1) = n + 1 := wrap64 (by omega) (by omega)
          refine ⟨(n + 1, i + 1), by simp [hi, hb, w1, w2], ⟨by simp only; omega, by simp only; omega, ?_⟩, by simp only; omega, trivial⟩
          simp only [e, hm, h2]; simp
        | false =>
          rw [hb] at hm
          refine ⟨(n, i + 1), by simp [hi, hb, w1], ⟨by simp only; omega, by simp only; omega, ?_⟩, by simp only; omega, trivial⟩
          simp only [e, hm, h2]; simp
      · right
        have : i = s.long.length := by omega
        subst this
        simp only [Int.toNat_natCast, List.take_length] at h2
        simp [h2]) (x := (0, 0)) ⟨by simp, by simp, by simp [many]⟩
  rw [this]; rfl

theorem next_spec (s : Sizes) (h0 : 0 ≤ s.pass) (h1 : s.pass ≤ 30) : size_Sizes_Next s = some (if 30 ≤ s.pass then (false, 360, s) else (s.grew, 0, ⟨s.long, false, s.pass + 1⟩)) := by
  unfold size_Sizes_Next
  by_cases h : 30 ≤ s.pass
  · simp [h]
  · simp [h, wrap64 (n := s.pass + 1) (by omega) (by omega)]

theorem new_spec (n : Int) : size_New n = some ⟨List.replicate (min (max n 0) 600).toNat false, false, 0⟩ := by
  unfold size_New
  rw [mnI_eq, mxI_eq, mk_eq (by omega) (by omega) (by omega)]; rfl

theorem awake_true : hansomlaw36_awake = some true := by
  unfold hansomlaw36_awake
  simp only [new_spec, Option.bind_some]
  rw [next_spec _ (by simp) (by simp)]
  simp only [grow_spec, long_spec, Option.bind_some, size_Sizes_Pass]
  simp only [show (min (max (2 : Int) 0) 600).toNat = 2 from rfl]
  simp [can, isL, count_spec, many, List.replicate]


theorem want_spec (s : Sizes) (b : List Bool) (l : List Int) (k : Int) (g : Bool) (p i at_ : Int) (inn : Bool) (hk : (b.length : Int) = k) (h6 : k ≤ 600) :
    loopO (fun x : Bool × Int => hansomlaw36_SizePlays_l69 s b l k g p i at_ inn x.1 x.2) (false, 0) = some (can b at_) := by
  have := loop_to (f := fun x : Bool × Int => hansomlaw36_SizePlays_l69 s b l k g p i at_ inn x.1 x.2) (fun x => x.1 || (decide (x.2 ≤ at_) && can b at_))
    (fun x => 0 ≤ x.2 ∧ x.2 ≤ k) (fun x => (k - x.2).toNat) (fun x hx => by
      obtain ⟨w, j⟩ := x
      obtain ⟨h0, h1⟩ := hx
      simp only at h0 h1 ⊢
      unfold hansomlaw36_SizePlays_l69
      by_cases hj : j < k
      · left
        have w1 : IntKind.wrap .i64 (j + 1) = j + 1 := wrap64 (by omega) (by omega)
        cases w with
        | true => exact ⟨(true, j + 1), by simp [hj, w1], ⟨by simp only; omega, by simp only; omega⟩, by simp only; omega, by simp⟩
        | false =>
          by_cases he : j = at_
          · subst he
            rw [idx_eq h0 (by omega)]
            have hlt : j.toNat < b.length := by omega
            refine ⟨(!(b[j.toNat]'hlt), j + 1), by simp [hj, w1], ⟨by simp only; omega, by simp only; omega⟩, by simp only; omega, ?_⟩
            have hn : ¬ j + 1 ≤ j := by omega
            simp only [can, h0, decide_true, Bool.true_and, List.getElem?_eq_getElem hlt, hn, decide_false, Bool.false_and, Bool.or_false, Int.le_refl, Bool.false_or]
            cases b[j.toNat]'hlt <;> rfl
          · refine ⟨(false, j + 1), by simp [hj, w1, he], ⟨by simp only; omega, by simp only; omega⟩, by simp only; omega, ?_⟩
            have e : (j + 1 ≤ at_) ↔ (j ≤ at_) := by omega
            simp [e]
      · right
        have hc : (decide (j ≤ at_) && can b at_) = false := by
          by_cases h : j ≤ at_
          · have : b[at_.toNat]? = none := List.getElem?_eq_none (by omega)
            simp [can, this]
          · simp [h]
        simp [hj, hc]) (x := (false, 0)) ⟨by simp, by simp only; omega⟩
  rw [this]
  by_cases h : 0 ≤ at_
  · simp [h]
  · simp [can, h]

theorem many_spec (s : Sizes) (b : List Bool) (l : List Int) (k : Int) (g : Bool) (p i at_ : Int) (inn : Bool) (hs : s.long = b) (hk : (b.length : Int) = k) (h6 : k ≤ 600) :
    loopO (fun x : Int × Int => hansomlaw36_SizePlays_l100 s b l k g p i at_ inn x.1 x.2) (0, 0) = some (.inr (many b : Int)) := by
  exact loop_to (f := fun x : Int × Int => hansomlaw36_SizePlays_l100 s b l k g p i at_ inn x.1 x.2) (fun _ => Sum.inr (many b : Int))
    (fun x => 0 ≤ x.2 ∧ x.2 ≤ k ∧ x.1 = many (b.take x.2.toNat)) (fun x => (k - x.2).toNat) (fun x hx => by
      obtain ⟨n, j⟩ := x
      obtain ⟨h0, h1, h2⟩ := hx
      simp only at h0 h1 h2 ⊢
      unfold hansomlaw36_SizePlays_l100
      by_cases hj : j < k
      · left
        have hlt : j.toNat < b.length := by omega
        have hm := many_take hlt
        have hle := many_le (b.take (j.toNat + 1))
        rw [List.length_take] at hle
        have e : (j + 1).toNat = j.toNat + 1 := by omega
        have w1 : IntKind.wrap .i64 (j + 1) = j + 1 := wrap64 (by omega) (by omega)
        rw [long_spec, hs, idx_eq h0 (by omega)]
        have hl : isL b j = b[j.toNat]'hlt := by
          simp only [isL, h0, decide_true, Bool.true_and, List.getElem?_eq_getElem hlt]
          cases b[j.toNat]'hlt <;> rfl
        rw [hl]
        cases hb : b[j.toNat]'hlt with
        | true =>
          rw [hb] at hm
          have w2 : IntKind.wrap .i64 (n + 1) = n + 1 := wrap64 (by omega) (by omega)
          refine ⟨(n + 1, j + 1), by simp [hj, w1, w2], ⟨by simp only; omega, by simp only; omega, ?_⟩, by simp only; omega, trivial⟩
          simp only [e, hm, h2]; simp
        | false =>
          rw [hb] at hm
          refine ⟨(n, j + 1), by simp [hj, w1], ⟨by simp only; omega, by simp only; omega, ?_⟩, by simp only; omega, trivial⟩
          simp only [e, hm, h2]; simp
      · right
        have : j.toNat = b.length := by omega
        rw [this, List.take_length] at h2
        simp [hj, h2]) (x := (0, 0)) ⟨by simp, by simp only; omega, by simp [many]⟩

theorem round_spec (b : List Bool) (l : List Int) (k : Int) (g : Bool) (p i at_ : Int) (hk : (b.length : Int) = k) (h6 : k ≤ 600) (hi : 0 ≤ i) (hi' : i < 80) :
    ∃ b' g', b'.length = b.length ∧ hansomlaw36_SizePlays_j61 ⟨b, g, p⟩ b l k g p i at_ = some (.next (⟨b', g', p⟩, b', g', p, i + 1)) := by
  have w1 : IntKind.wrap .i64 (i + 1) = i + 1 := wrap64 (by omega) (by omega)
  have hin : ∀ (b' : List Bool) (inn : Bool), b'.length = b.length → inn = decide (0 ≤ at_ ∧ at_ < k) → isL b' at_ ≠ inn → inn = true := by
    intro b' inn hl he hne
    subst he
    simp only [isL, ne_eq] at hne
    by_cases h : 0 ≤ at_ ∧ at_ < k
    · simp [h]
    · exfalso
      apply hne
      by_cases h0 : 0 ≤ at_
      · have : b'[at_.toNat]? = none := List.getElem?_eq_none (by omega)
        simp [this, h0]
        omega
      · simp [h0]
  have fin : ∀ (b' : List Bool) (g' : Bool) (inn : Bool), b'.length = b.length → inn = decide (0 ≤ at_ ∧ at_ < k) → hansomlaw36_SizePlays_j94 ⟨b', g', p⟩ b' l k g' p i at_ inn = some (.next (⟨b', g', p⟩, b', g', p, i + 1)) := by
    intro b' g' inn hl he
    unfold hansomlaw36_SizePlays_j94 hansomlaw36_SizePlays_j96 hansomlaw36_SizePlays_j99
    rw [many_spec _ b' l k g' p i at_ inn rfl (by omega) h6, Option.bind_some]
    simp only
    unfold hansomlaw36_SizePlays_j123
    rw [count_spec _ (by simp only; omega), long_spec]
    simp only [Option.bind_some, size_Sizes_Pass, bne_self_eq_false, Bool.false_eq_true, if_false, w1]
    by_cases h : isL b' at_ = inn
    · simp [h]
    · have := hin b' inn hl he h
      subst this
      simp [h]
  have body : ∀ inn, inn = decide (0 ≤ at_ ∧ at_ < k) → ∃ b' g', b'.length = b.length ∧ hansomlaw36_SizePlays_j63 ⟨b, g, p⟩ b l k g p i at_ inn = some (.next (⟨b', g', p⟩, b', g', p, i + 1)) := by
    intro inn he
    unfold hansomlaw36_SizePlays_j63 hansomlaw36_SizePlays_j65 hansomlaw36_SizePlays_j68
    rw [want_spec _ b l k g p i at_ inn hk h6, Option.bind_some]
    unfold hansomlaw36_SizePlays_j80
    rw [grow_spec, Option.bind_some]
    simp only
    cases hc : can b at_ with
    | false =>
      refine ⟨b, g, rfl, ?_⟩
      simp only [hc, Bool.false_eq_true, if_false, bne_self_eq_false, hansomlaw36_SizePlays_j88]
      exact fin b g inn rfl he
    | true =>
      refine ⟨b.set at_.toNat true, true, by simp, ?_⟩
      have hc' := hc
      simp only [can, Bool.and_eq_true, decide_eq_true_eq, beq_iff_eq] at hc'
      have hlt := (List.getElem?_eq_some_iff.1 hc'.2).1
      simp only [hc, if_true, bne_self_eq_false, Bool.false_eq_true, if_false, hansomlaw36_SizePlays_j88]
      rw [idx_eq hc'.1 (by omega), Option.bind_some]
      exact fin _ true inn (by simp) he
  unfold hansomlaw36_SizePlays_j61
  by_cases h : at_ ≥ 0
  · simp only [h, decide_true, if_true]
    exact body _ (by simp [show (0 ≤ at_) from h])
  · simp only [h, decide_false, Bool.false_eq_true, if_false]
    exact body _ (by simp; intro h'; omega)

theorem sizePlays_true (n : Int) (l : List Int) (hn : wfI .i64 n) (hl : wfL (wfI .i64) l) : hansomlaw36_SizePlays n l = some true := by
  unfold hansomlaw36_SizePlays
  have hk : mnI (mxI (bitsOp .and .i64 n 15) 0) 600 = min (max (bitsOp .and .i64 n 15) 0) 600 := by rw [mnI_eq, mxI_eq]
  rw [new_spec, hk]
  generalize hkk : min (max (bitsOp .and .i64 n 15) 0) 600 = k
  have h0 : 0 ≤ k := by omega
  have h6 : k ≤ 600 := by omega
  have hm : min (max k 0) 600 = k := by omega
  rw [hm, mk_eq h0 (by omega) (by omega)]
  simp only [Option.bind_some]
  obtain ⟨b, h1, rfl⟩ := loop_rule (f := fun x : Sizes × List Bool × Bool × Int × Int => hansomlaw36_SizePlays_l10 x.1 x.2.1 l k x.2.2.1 x.2.2.2.1 x.2.2.2.2)
    (fun x => x.1 = ⟨x.2.1, x.2.2.1, x.2.2.2.1⟩ ∧ (x.2.1.length : Int) = k ∧ 0 ≤ x.2.2.2.1 ∧ x.2.2.2.1 ≤ 30 ∧ 0 ≤ x.2.2.2.2 ∧ x.2.2.2.2 ≤ 80) (fun x => (80 - x.2.2.2.2).toNat) (fun r => r = Sum.inr ())
    (fun x hx => by
      obtain ⟨s, b, g, p, i⟩ := x
      obtain ⟨hs, hb, hp0, hp1, hi0, hi1⟩ := hx
      simp only at hs hb hp0 hp1 hi0 hi1 ⊢
      subst hs
      unfold hansomlaw36_SizePlays_l10
      by_cases h1 : i < (l.length : Int)
      · by_cases h2 : i < 80
        · left
          have w1 : IntKind.wrap .i64 (i + 1) = i + 1 := wrap64 (by omega) (by omega)
          simp only [h1, h2, decide_true, if_true, idx_eq hi0 h1, Option.bind_some]
          by_cases h3 : (bitsOp .and .i64 (l[i.toNat]'(by omega)) 3 == 3) = true
          · rw [if_pos h3, next_spec _ (by simp only; omega) (by simp only; omega)]
            simp only [Option.bind_some]
            by_cases h4 : 30 ≤ p
            · exact ⟨(⟨b, g, p⟩, b, g, p, i + 1), by simp [h4, w1], ⟨rfl, hb, hp0, hp1, by simp only; omega, by simp only; omega⟩, by simp only; omega⟩
            · have w2 : IntKind.wrap .i64 (p + 1) = p + 1 := wrap64 (by omega) (by omega)
              exact ⟨(⟨b, false, p + 1⟩, b, false, p + 1, i + 1), by simp [h4, w1, w2], ⟨rfl, hb, by simp only; omega, by simp only; omega, by simp only; omega, by simp only; omega⟩, by simp only; omega⟩
          · rw [if_neg h3]
            have key : ∀ at_, ∃ y, hansomlaw36_SizePlays_j61 ⟨b, g, p⟩ b l k g p i at_ = some (.next y) ∧ (y.1 = ⟨y.2.1, y.2.2.1, y.2.2.2.1⟩ ∧ (y.2.1.length : Int) = k ∧ 0 ≤ y.2.2.2.1 ∧ y.2.2.2.1 ≤ 30 ∧ 0 ≤ y.2.2.2.2 ∧ y.2.2.2.2 ≤ 80) ∧ (80 - y.2.2.2.2).toNat < (80 - i).toNat := by
              intro at_
              obtain ⟨b', g', hl', he⟩ := round_spec b l k g p i at_ hb h6 hi0 h2
              exact ⟨_, he, ⟨rfl, by simp only; omega, hp0, hp1, by simp only; omega, by simp only; omega⟩, by simp only; omega⟩
            split
            · exact key _
            · exact key _
        · exact .inr ⟨_, by simp [h1, h2], rfl⟩
      · exact .inr ⟨_, by simp [h1], rfl⟩) (x := (⟨List.replicate k.toNat false, false, 0⟩, List.replicate k.toNat false, false, 0, 0)) ⟨rfl, by simp; omega, by simp, by simp, by simp, by simp⟩
  rw [h1]
  simp only [Option.bind_some]
  rw [awake_true]; rfl
end Go.Es.Spl
