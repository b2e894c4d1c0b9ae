/- So many bytes a program has, and no more: in plain Lean. No condition. -/
import Derived.Test.YtbogbgbpahonoaaLayH
import Derived.KernelRfl
set_option linter.unusedVariables false
set_option linter.unusedSimpArgs false
set_option maxHeartbeats 1000000
set_option maxRecDepth 10000
namespace Go.Es.Lay

def segP (len : Int) : Comb := ⟨[], [], 3, 0, 0, 0, len, []⟩

theorem awake_true : hansomlaw41_awake = some true := by
  unfold hansomlaw41_awake
  have hc : ∀ c ∈ [segP 20, segP 20], okC c := by
    intro c hc
    simp only [List.mem_cons, List.not_mem_nil, or_false, or_self] at hc
    subst hc
    exact ⟨by decide, by decide, by decide, by decide, by decide, by decide⟩
  have ho : ord [segP 20, segP 20] 2 = [0, 1] := by kernel_rfl
  have ha : ats [segP 20, segP 20] [0, 1] 2 = 52 := by kernel_rfl
  have hs : lay_Stack [⟨[], [], 0, 5, 0, 0, 1, []⟩] = some 0 := by
    unfold lay_Stack slices_IndexFunc_LComb_lay_Stack_1
    rw [loopO_eq]
    simp [slices_IndexFunc_LComb_lay_Stack_1_l6, idx, lay_Stack_1]
  rcases place_spec [segP 20, segP 20] (by simp) hc with ⟨h1, _⟩ | ⟨_, st, fx, h1, hst, hfx, hL, _⟩
  · simp only [List.length_cons, List.length_nil] at h1
    rw [ho, ha] at h1; omega
  · simp only [List.length_cons, List.length_nil] at h1 hst hfx hL
    have hp := hL 1 (by rw [ho]; decide) (by omega)
    simp only [ho, ha] at h1 hp
    have hb : begins [segP 20, segP 20] (ats [segP 20, segP 20] [0, 1] 1) 1 = 32 := by kernel_rfl
    have h32 : st[1]? = some 32 := by have := hp.1; rw [show ([0, 1] : List Int)[1] = 1 from rfl] at this; rw [hb] at this; exact this
    have i1 : idx st 1 = some 32 := by unfold idx; rw [if_pos (by omega)]; exact h32
    unfold segP at h1
    rw [h1, Option.bind_some]
    have hp : lay_Para ⟨st, fx, [], 52⟩ 1 = some 2 := by
      unfold lay_Para
      have : ¬ ((1 : Int) ≥ (st.length : Int)) := by omega
      simp only [show ¬ (1 : Int) < 0 by omega, this, decide_false, Bool.false_eq_true, if_false, i1, Option.bind_some]
      rfl
    simp only [hst, i1, Option.bind_some, hp, hs]
    rfl

theorem most_build (k : Nat) (n : Int) (hk : k ≤ 100) : loopO (fun x : List Comb × Int => hansomlaw41_LayMost_l10 x.1 n (k : Int) x.2) ([], 0) = some (List.replicate k (segP 65536)) := by
  refine loop_to (f := fun x : List Comb × Int => hansomlaw41_LayMost_l10 x.1 n (k : Int) x.2) (fun _ => List.replicate k (segP 65536)) (fun x => 0 ≤ x.2 ∧ x.2 ≤ k ∧ x.1 = List.replicate x.2.toNat (segP 65536)) (fun x => (k - x.2).toNat) (fun x hx => ?_) ⟨by simp, by simp, by simp⟩
  obtain ⟨o, i⟩ := x
  obtain ⟨h0, h1, h2⟩ := hx
  simp only at h0 h1 h2 ⊢
  subst h2
  unfold hansomlaw41_LayMost_l10
  by_cases hi : i < (k : Int)
  · left
    have w1 : IntKind.wrap .i64 (i + 1) = i + 1 := wrap64 (by omega) (by omega)
    have e : (i + 1).toNat = i.toNat + 1 := by omega
    simp only [hi, decide_true, if_true, w1]
    rw [grow_eq (by simp; omega) (by simp; omega)]
    refine ⟨(List.replicate (i.toNat + 1) (segP 65536), i + 1), ?_, ⟨by simp only; omega, by simp only; omega, by simp only [e]⟩, by simp only; omega, trivial⟩
    rw [List.replicate_succ']; rfl
  · right
    have : i.toNat = k := by omega
    simp [hi, this]

theorem most_case (k : Nat) (last : Int) (hk : 8 ≤ k) (hk2 : k ≤ 11) (h0 : 0 ≤ last) (h1 : last ≤ 65535) :
    let l := List.replicate k (segP 65536) ++ [⟨[], [], 1, 0, 0, 0, last, []⟩]
    ats l (ord l l.length) l.length = k * 65536 + last ∧ ∀ c ∈ l, okC c := by
  intro l
  refine ⟨?_, fun c hc => ?_⟩
  · have : k = 8 ∨ k = 9 ∨ k = 10 ∨ k = 11 := by omega
    rcases this with rfl | rfl | rfl | rfl
    · have ho : ord l 9 = [0, 1, 2, 3, 4, 5, 6, 7, 8] := by kernel_rfl
      have : ats l [0, 1, 2, 3, 4, 5, 6, 7, 8] 9 = 524288 + last := by kernel_rfl
      show ats l (ord l 9) 9 = _
      rw [ho, this]; omega
    · have ho : ord l 10 = [0, 1, 2, 3, 4, 5, 6, 7, 8, 9] := by kernel_rfl
      have : ats l [0, 1, 2, 3, 4, 5, 6, 7, 8, 9] 10 = 589824 + last := by kernel_rfl
      show ats l (ord l 10) 10 = _
      rw [ho, this]; omega
    · have ho : ord l 11 = [0, 1, 2, 3, 4, 5, 6, 7, 8, 9, 10] := by kernel_rfl
      have : ats l [0, 1, 2, 3, 4, 5, 6, 7, 8, 9, 10] 11 = 655360 + last := by kernel_rfl
      show ats l (ord l 11) 11 = _
      rw [ho, this]; omega
    · have ho : ord l 12 = [0, 1, 2, 3, 4, 5, 6, 7, 8, 9, 10, 11] := by kernel_rfl
      have : ats l [0, 1, 2, 3, 4, 5, 6, 7, 8, 9, 10, 11] 12 = 720896 + last := by kernel_rfl
      show ats l (ord l 12) 12 = _
      rw [ho, this]; omega
  · simp only [l, List.mem_append, List.mem_replicate, List.mem_singleton] at hc
    rcases hc with ⟨_, rfl⟩ | rfl
    · exact ⟨by decide, by decide, by decide, by decide, by decide, by decide⟩
    · exact ⟨h0, by simp only; omega, by simp, by simp, by simp, by simp⟩

theorem layMost_true (n : Int) (hn : wfI .i64 n) : hansomlaw41_LayMost n = some true := by
  unfold hansomlaw41_LayMost
  have e3 : bitsOp .and .i64 n 3 = n % 4 := and_mask n 2 (by omega)
  have es : shrI .i64 n 2 = n / 4 := shr_eq (j := 2) (by decide)
  have e5 : bitsOp .and .i64 (n / 4) 65535 = (n / 4) % 65536 := and_mask (n / 4) 16 (by omega)
  rw [e3, es, e5]
  have w1 : IntKind.wrap .i64 (8 + n % 4) = 8 + n % 4 := wrap64 (by omega) (by omega)
  have w2 : IntKind.wrap .i64 ((8 + n % 4) * 65536) = (8 + n % 4) * 65536 := wrap64 (by omega) (by omega)
  have w3 : IntKind.wrap .i64 ((8 + n % 4) * 65536 + n / 4 % 65536) = (8 + n % 4) * 65536 + n / 4 % 65536 := wrap64 (by omega) (by omega)
  rw [w1, w2, w3]
  have hl0 : 0 ≤ n / 4 % 65536 := by omega
  have hl1 : n / 4 % 65536 ≤ 65535 := by omega
  generalize n / 4 % 65536 = last at hl0 hl1
  obtain ⟨k, hk⟩ : ∃ k : Nat, 8 + n % 4 = k := ⟨(8 + n % 4).toNat, by omega⟩
  rw [hk, most_build k n (by omega), Option.bind_some, grow_eq (by simp; omega) (by simp; omega), Option.bind_some, awake_true]
  obtain ⟨ha, hc⟩ := most_case k last (by omega) (by omega) hl0 hl1
  rcases place_spec _ (by rw [List.length_append, List.length_replicate]; simp; omega) hc with ⟨h1, h2⟩ | ⟨h1, st, fx, h2, _⟩
  · rw [ha] at h1
    rw [h2]
    have : ¬ ((k : Int) * 65536 + last ≤ 655360) := by omega
    simp [this]
  · rw [ha] at h1 h2
    rw [h2]
    simp [h1]
end Go.Es.Lay
