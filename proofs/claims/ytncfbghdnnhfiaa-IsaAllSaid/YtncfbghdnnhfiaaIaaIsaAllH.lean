-- hand: IsaAll
import Derived.Test.YtncfbghdnnhfiaaIaaH
set_option linter.unusedVariables false
set_option linter.unusedSimpArgs false
set_option maxHeartbeats 4000000
set_option maxRecDepth 100000
namespace Go.Es.Iaa
def hitB (op k : Nat) : Bool := (rw' (look op k)).2 && (k == 0 || grp op)
def cntOp (op : Nat) : Nat := (List.range 8).countP (hitB op)
def nm (op k : Nat) : Nat := (look op k).1
theorem nm_lit : LIT.all (fun l => l.all fun x => decide (x.1 ≤ 95)) = true := by decide +kernel
theorem nm_le (op k : Nat) : nm op k ≤ 95 := by
  have h := nm_lit
  rw [List.all_eq_true] at h
  unfold nm look
  cases hl : LIT[op]? with
  | none => simp
  | some l =>
    have h1 := h l (List.mem_of_getElem? hl)
    rw [List.all_eq_true] at h1
    have g : ∀ j, (l.getD j (0, 0, 0)).1 ≤ 95 := fun j => by
      rw [List.getD_eq_getElem?_getD]
      cases hj : l[j]? with
      | none => simp
      | some x => simpa using h1 x (List.mem_of_getElem? hj)
    simp only
    split
    · exact g 0
    · exact g k
theorem rw_hit (op k : Nat) (h : (rw' (look op k)).2 = true) : 1 ≤ nm op k ∧ (rw' (look op k)).1.Name = (nm op k : Int) := by
  unfold nm
  unfold rw' at h ⊢
  split at h
  · cases h
  · rename_i hx
    rw [if_neg hx]
    exact ⟨by omega, rfl⟩
theorem idx_set96 {x : A96 Bool} {i : Nat} (hi : i < 96) (j : Int) : idx (x.set (i : Int) true).l j = if j = (i : Int) then some true else idx x.l j := by
  have hz : idx x.l (i : Int) = some (x.l[i]'(by rw [A96.len]; exact hi)) := idx_nat _
  have hs := A96.setl (y := true) hz
  rw [← hs, Int.toNat_natCast]
  unfold idx
  by_cases h0 : 0 ≤ j
  · rw [if_pos h0, if_pos h0, List.getElem?_set]
    by_cases hj : j = (i : Int)
    · subst hj
      rw [Int.toNat_natCast, if_pos rfl, if_pos rfl, if_pos (by rw [A96.len]; exact hi)]
    · rw [if_neg (by omega), if_neg hj]
  · rw [if_neg h0, if_neg h0, if_neg (by omega)]
def stepS (op : Nat) (s : A96 Bool) (k : Nat) : A96 Bool := if hitB op k = true then s.set (nm op k : Int) true else s
theorem step_keeps (op k : Nat) (s : A96 Bool) (j : Int) (h : idx s.l j = some true) : idx (stepS op s k).l j = some true := by
  unfold stepS
  split
  · rw [idx_set96 (by have := nm_le op k; omega)]
    split
    · rfl
    · exact h
  · exact h
theorem step_has (op k : Nat) (s : A96 Bool) (h : hitB op k = true) : idx (stepS op s k).l (nm op k : Int) = some true := by
  unfold stepS
  rw [if_pos h, idx_set96 (by have := nm_le op k; omega), if_pos rfl]
theorem fold_keeps (op : Nat) (j : Int) : ∀ (l : List Nat) (s : A96 Bool), idx s.l j = some true → idx (l.foldl (stepS op) s).l j = some true
  | [], s, h => h
  | k :: l, s, h => fold_keeps op j l _ (step_keeps op k s j h)
theorem fold_has (op : Nat) : ∀ (l : List Nat) (s : A96 Bool) (k : Nat), k ∈ l → hitB op k = true → idx (l.foldl (stepS op) s).l (nm op k : Int) = some true
  | [], s, k, h, _ => by cases h
  | q :: l, s, k, h, hh => by
    rcases List.mem_cons.1 h with rfl | h
    · exact fold_keeps op _ l _ (step_has op k s hh)
    · exact fold_has op l _ k h hh
theorem inner_spec (s : A96 Bool) (f i : Int) (n op : Nat) (hop : op < 256) (hn : n ≤ 100000) :
    loopO (fun x : A96 Bool × Int × Int => hansomlaw04_IsaAll_l22 x.1 f x.2.1 i (op : Int) x.2.2) (s, (n : Int), 0) = some (.inr ((List.range 8).foldl (stepS op) s, ((n + cntOp op : Nat) : Int))) := by
  refine loop_to (f := fun x : A96 Bool × Int × Int => hansomlaw04_IsaAll_l22 x.1 f x.2.1 i (op : Int) x.2.2) (fun _ => (.inr ((List.range 8).foldl (stepS op) s, ((n + cntOp op : Nat) : Int)) : Bool ⊕ (A96 Bool × Int)))
    (fun x => ∃ k : Nat, k ≤ 8 ∧ x = ((List.range k).foldl (stepS op) s, ((n + (List.range k).countP (hitB op) : Nat) : Int), (k : Int))) (fun x => (8 - x.2.2).toNat) (fun x hx => ?_) ⟨0, by omega, by simp⟩
  obtain ⟨k, hk, rfl⟩ := hx
  simp only
  unfold hansomlaw04_IsaAll_l22
  by_cases hlt : k < 8
  · left
    have hc := List.countP_le_length (p := hitB op) (l := List.range k)
    rw [List.length_range] at hc
    have hk8 : ((k : Int) % 8).toNat = k := by omega
    have hg := isaGrouped ⟨op, hop⟩
    simp only at hg
    have w1 : IntKind.wrap .i64 ((k : Int) + 1) = ((k + 1 : Nat) : Int) := by rw [wrap64 (by omega) (by omega)]; omega
    have w2 : IntKind.wrap .i64 (((n + (List.range k).countP (hitB op) : Nat) : Int) + 1) = ((n + (List.range k).countP (hitB op) + 1 : Nat) : Int) := by rw [wrap64 (by omega) (by omega)]; omega
    simp only [show (k : Int) < 8 from by omega, decide_true, if_true, of_spec op hop, hk8, Option.bind_some, hg]
    have j35 : ∀ t : Bool, t = hitB op k → ((rw' (look op k)).2 = true ∨ t = false) → hansomlaw04_IsaAll_j35 ((List.range k).foldl (stepS op) s) (rw' (look op k)).1 f ((n + (List.range k).countP (hitB op) : Nat) : Int) i (op : Int) (k : Int) t =
        some (.next ((List.range (k + 1)).foldl (stepS op) s, ((n + (List.range (k + 1)).countP (hitB op) : Nat) : Int), ((k + 1 : Nat) : Int))) := by
      intro t ht h2
      unfold hansomlaw04_IsaAll_j35
      rw [List.range_succ, List.foldl_append, List.countP_append, List.countP_singleton]
      cases hb : hitB op k with
      | false =>
        rw [hb] at ht
        subst ht
        simp only [Bool.false_eq_true, if_false, w1, Nat.add_zero, List.foldl_cons, List.foldl_nil, stepS, hb]
      | true =>
        rw [hb] at ht
        subst ht
        have hr : (rw' (look op k)).2 = true := by
          rcases h2 with h | h
          · exact h
          · cases h
        obtain ⟨a1, a2⟩ := rw_hit op k hr
        have a3 := nm_le op k
        have hz : idx ((List.range k).foldl (stepS op) s).l (nm op k : Int) = some (((List.range k).foldl (stepS op) s).l[nm op k]'(by rw [A96.len]; omega)) := idx_nat _
        simp only [if_true, a2, show ¬ (nm op k : Int) < 1 from by omega, show ¬ (nm op k : Int) > 95 from by omega, decide_false, Bool.false_eq_true, if_false, hz, Option.bind_some, w1, w2, List.foldl_cons, List.foldl_nil, stepS, hb]
        rfl
    refine ⟨_, ?_, ⟨k + 1, by omega, rfl⟩, by simp only; omega, trivial⟩
    unfold hitB at j35
    cases hr : (rw' (look op k)).2 with
    | false =>
      simp only [Bool.false_eq_true, if_false]
      exact j35 false (by rw [hr]; rfl) (.inr rfl)
    | true =>
      simp only [if_true]
      by_cases h0 : k = 0
      · have : ((k : Int) == 0) = true := by simp [h0]
        simp only [this, if_true]
        exact j35 true (by rw [hr, h0]; rfl) (.inl hr)
      · have : ((k : Int) == 0) = false := by simp; omega
        have h0' : (k == 0) = false := by simp [h0]
        simp only [this, Bool.false_eq_true, if_false]
        exact j35 (grp op) (by rw [hr, h0']; rfl) (.inl hr)
  · right
    have : k = 8 := by omega
    subst this
    rfl
def sumF (g : Nat → Nat) : Nat → Nat
  | 0 => 0
  | n + 1 => sumF g n + g n
theorem sumF_shift (g : Nat → Nat) : ∀ n, sumF (fun j => g (j + 1)) n + g 0 = sumF g n + g n
  | 0 => rfl
  | n + 1 => by
    have := sumF_shift g n
    simp only [sumF]
    omega
theorem sumF_rot (c : Nat → Nat) : ∀ f, sumF (fun j => c ((j + f) % 256)) 256 = sumF c 256
  | 0 => by
    have : ∀ n, n ≤ 256 → sumF (fun j => c ((j + 0) % 256)) n = sumF c n := by
      intro n
      induction n with
      | zero => intro _; rfl
      | succ n ih =>
        intro h
        simp only [sumF]
        rw [ih (by omega), Nat.add_zero, Nat.mod_eq_of_lt (by omega)]
    exact this 256 (by omega)
  | f + 1 => by
    have h := sumF_shift (fun j => c ((j + f) % 256)) 256
    have e : (fun j => c ((j + 1 + f) % 256)) = fun j => c ((j + (f + 1)) % 256) := by funext j; congr 2; omega
    simp only [e] at h
    have e2 : (256 + f) % 256 = (0 + f) % 256 := by omega
    rw [e2] at h
    have := sumF_rot c f
    omega
theorem sumF_le (g : Nat → Nat) (m : Nat) (h : ∀ j, g j ≤ m) : ∀ n, sumF g n ≤ m * n
  | 0 => by simp [sumF]
  | n + 1 => by
    have := sumF_le g m h n; have := h n
    simp only [sumF, Nat.mul_succ]; omega
theorem cntOp_le (op : Nat) : cntOp op ≤ 8 := by
  have := List.countP_le_length (p := hitB op) (l := List.range 8)
  rw [List.length_range] at this
  exact this
theorem outer_spec (f : Nat) (hf : f < 256) (s : A96 Bool) : ∃ s', loopO (fun x : A96 Bool × Int × Int => hansomlaw04_IsaAll_l8 x.1 (f : Int) x.2.1 x.2.2) (s, 0, 0) = some (.inr (s', ((sumF cntOp 256 : Nat) : Int))) ∧
    ∀ op, op < 256 → ∀ k, k < 8 → hitB op k = true → idx s'.l (nm op k : Int) = some true := by
  obtain ⟨r, h1, h2⟩ := loop_rule (f := fun x : A96 Bool × Int × Int => hansomlaw04_IsaAll_l8 x.1 (f : Int) x.2.1 x.2.2)
    (fun x => ∃ (i : Nat) (s' : A96 Bool), i ≤ 256 ∧ x = (s', ((sumF (fun j => cntOp ((j + f) % 256)) i : Nat) : Int), (i : Int)) ∧ ∀ j, j < i → ∀ k, k < 8 → hitB ((j + f) % 256) k = true → idx s'.l (nm ((j + f) % 256) k : Int) = some true) (fun x => (256 - x.2.2).toNat)
    (fun r => ∃ s', r = .inr (s', ((sumF (fun j => cntOp ((j + f) % 256)) 256 : Nat) : Int)) ∧ ∀ j, j < 256 → ∀ k, k < 8 → hitB ((j + f) % 256) k = true → idx s'.l (nm ((j + f) % 256) k : Int) = some true) (fun x hx => by
      obtain ⟨i, s', hi, rfl, hs⟩ := hx
      simp only
      unfold hansomlaw04_IsaAll_l8
      by_cases hlt : i < 256
      · left
        have hop : IntKind.wrap .u8 (IntKind.wrap .u8 (i : Int) + (f : Int)) = (((i + f) % 256 : Nat) : Int) := by
          have hw : ∀ n : Int, IntKind.wrap .u8 n = n % 256 := fun n => by simp [IntKind.wrap, IntKind.bits, IntKind.signed]
          rw [hw, hw]; omega
        have hle := sumF_le (fun j => cntOp ((j + f) % 256)) 8 (fun j => cntOp_le _) i
        simp only [show (i : Int) < 256 from by omega, decide_true, if_true, hop]
        rw [inner_spec s' (f : Int) (i : Int) _ ((i + f) % 256) (Nat.mod_lt _ (by omega)) (by omega), Option.bind_some]
        simp only
        refine ⟨_, rfl, ⟨i + 1, (List.range 8).foldl (stepS ((i + f) % 256)) s', by omega, ?_, fun j hj k hk hh => ?_⟩, ?_⟩
        · rw [wrap64 (by omega) (by omega)]; rfl
        · by_cases e : j = i
          · subst e
            exact fold_has _ _ _ k (List.mem_range.2 hk) hh
          · exact fold_keeps _ _ _ _ (hs j (by omega) k hk hh)
        · simp only; rw [wrap64 (by omega) (by omega)]; omega
      · right
        have : i = 256 := by omega
        subst this
        exact ⟨_, rfl, s', rfl, hs⟩) (x := (s, 0, 0)) ⟨0, s, by omega, rfl, fun j hj => absurd hj (by omega)⟩
  obtain ⟨s', rfl, hs⟩ := h2
  refine ⟨s', by rw [h1, sumF_rot], fun op hop k hk hh => ?_⟩
  have h := hs ((op + (256 - f)) % 256) (Nat.mod_lt _ (by omega)) k hk
  have e : ((op + (256 - f)) % 256 + f) % 256 = op := by omega
  rw [e] at h
  exact h hh
theorem ref_inner (n i : Nat) (hi : i < 256) (hn : n ≤ 100000) : loopO (fun x : Int × Int => hansomlaw04_count_l20 x.1 (i : Int) x.2) ((n : Int), 0) = some ((n + cntOp i : Nat) : Int) := by
  refine loop_to (f := fun x : Int × Int => hansomlaw04_count_l20 x.1 (i : Int) x.2) (fun _ => ((n + cntOp i : Nat) : Int)) (fun x => ∃ k : Nat, k ≤ 8 ∧ x = (((n + (List.range k).countP (hitB i) : Nat) : Int), (k : Int))) (fun x => (8 - x.2).toNat) (fun x hx => ?_) ⟨0, by omega, by simp⟩
  obtain ⟨k, hk, rfl⟩ := hx
  simp only
  unfold hansomlaw04_count_l20
  by_cases hlt : k < 8
  · left
    have hc := List.countP_le_length (p := hitB i) (l := List.range k)
    rw [List.length_range] at hc
    have hk8 : ((k : Int) % 8).toNat = k := by omega
    have w0 : IntKind.wrap .u8 (i : Int) = (i : Int) := by
      have hw : ∀ n : Int, IntKind.wrap .u8 n = n % 256 := fun n => by simp [IntKind.wrap, IntKind.bits, IntKind.signed]
      rw [hw]; omega
    have w1 : IntKind.wrap .i64 ((k : Int) + 1) = ((k + 1 : Nat) : Int) := by rw [wrap64 (by omega) (by omega)]; omega
    have w2 : IntKind.wrap .i64 (((n + (List.range k).countP (hitB i) : Nat) : Int) + 1) = ((n + (List.range k).countP (hitB i) + 1 : Nat) : Int) := by rw [wrap64 (by omega) (by omega)]; omega
    simp only [show (k : Int) < 8 from by omega, decide_true, if_true, w0, row_spec i hi, hk8, Option.bind_some, refGrouped i hi, w1, w2]
    refine ⟨(((n + (List.range (k + 1)).countP (hitB i) : Nat) : Int), ((k + 1 : Nat) : Int)), ?_, ⟨k + 1, by omega, rfl⟩, by simp only; omega, trivial⟩
    rw [List.range_succ, List.countP_append, List.countP_singleton]
    unfold hitB
    cases hr : (rw' (look i k)).2 with
    | false => simp
    | true =>
      by_cases h0 : k = 0
      · subst h0; rfl
      · have : ((k : Int) == 0) = false := by simp; omega
        have h0' : (k == 0) = false := by simp [h0]
        cases hg : grp i <;> simp [this, h0'] <;> omega
  · right
    have : k = 8 := by omega
    subst this
    rfl
theorem count_spec : hansomlaw04_count = some ((sumF cntOp 256 : Nat) : Int) := by
  unfold hansomlaw04_count
  rw [loop_to (f := fun x : Int × Int => hansomlaw04_count_l8 x.1 x.2) (fun _ => ((sumF cntOp 256 : Nat) : Int)) (fun x => ∃ i : Nat, i ≤ 256 ∧ x = (((sumF cntOp i : Nat) : Int), (i : Int))) (fun x => (256 - x.2).toNat) (fun x hx => ?_) (x := ((0 : Int), (0 : Int))) ⟨0, by omega, rfl⟩]
  · rfl
  · obtain ⟨i, hi, rfl⟩ := hx
    simp only
    unfold hansomlaw04_count_l8
    by_cases hlt : i < 256
    · left
      have hle := sumF_le cntOp 8 cntOp_le i
      simp only [show (i : Int) < 256 from by omega, decide_true, if_true]
      rw [ref_inner _ i hlt (by omega), Option.bind_some]
      refine ⟨_, rfl, ⟨i + 1, by omega, ?_⟩, ?_, trivial⟩
      · rw [wrap64 (by omega) (by omega)]; rfl
      · simp only; rw [wrap64 (by omega) (by omega)]; omega
    · right
      have : i = 256 := by omega
      subst this
      rfl
def NMS : List Nat := (List.range 256).flatMap fun op => (List.range 8).filterMap fun k => if hitB op k then some (nm op k) else none
theorem nms_ok : (List.range 95).all (fun i => NMS.contains (i + 1)) = true := by decide +kernel
theorem has_name (i : Nat) (h1 : 1 ≤ i) (h2 : i ≤ 95) : ∃ op, op < 256 ∧ ∃ k, k < 8 ∧ hitB op k = true ∧ nm op k = i := by
  have h := nms_ok
  rw [List.all_eq_true] at h
  have := h (i - 1) (List.mem_range.2 (by omega))
  rw [show i - 1 + 1 = i by omega, List.contains_iff_mem] at this
  obtain ⟨op, hop, hm⟩ := List.mem_flatMap.1 this
  obtain ⟨k, hk, he⟩ := List.mem_filterMap.1 hm
  split at he
  · rename_i hh
    exact ⟨op, List.mem_range.1 hop, k, List.mem_range.1 hk, hh, Option.some.inj he⟩
  · cases he
theorem seen_spec (s : A96 Bool) (n : Int) (h : ∀ i : Nat, 1 ≤ i → i ≤ 95 → idx s.l (i : Int) = some true) : loopO (fun x : Int => hansomlaw04_IsaAll_l54 s n x) 1 = some (.inr ()) := by
  refine loop_to (f := fun x : Int => hansomlaw04_IsaAll_l54 s n x) (fun _ => (.inr () : Bool ⊕ Unit)) (fun x => ∃ i : Nat, 1 ≤ i ∧ i ≤ 96 ∧ x = (i : Int)) (fun x => (96 - x).toNat) (fun x hx => ?_) (x := (1 : Int)) ⟨1, by omega, by omega, rfl⟩
  obtain ⟨i, h1, h2, rfl⟩ := hx
  unfold hansomlaw04_IsaAll_l54
  by_cases hlt : i ≤ 95
  · left
    simp only [show (i : Int) ≤ 95 from by omega, decide_true, if_true, h i h1 hlt, Option.bind_some, Bool.not_true, Bool.false_eq_true, if_false]
    exact ⟨_, rfl, ⟨i + 1, by omega, by omega, by rw [wrap64 (by omega) (by omega)]; omega⟩, by rw [wrap64 (by omega) (by omega)]; omega, trivial⟩
  · right
    simp only [show ¬ (i : Int) ≤ 95 from by omega, decide_false, Bool.false_eq_true, if_false]
theorem isaAll_true (f : Int) (wf : wfI .u8 f) : hansomlaw04_IsaAll f = some true := by
  obtain ⟨f0, f1⟩ := wfI_u8.1 wf
  obtain ⟨n, rfl⟩ : ∃ n : Nat, f = n := ⟨f.toNat, by omega⟩
  unfold hansomlaw04_IsaAll
  obtain ⟨s', h1, h2⟩ := outer_spec n (by omega) _
  rw [h1, Option.bind_some]
  simp only
  rw [seen_spec s' _ (fun i h1 h2' => by
    obtain ⟨op, ho, k, hk, hh, he⟩ := has_name i h1 h2'
    have := h2 op ho k hk hh
    rw [he] at this
    exact this), Option.bind_some]
  simp only [awake_true, Option.bind_some, if_true, count_spec, beq_self_eq_true]
end Go.Es.Iaa
