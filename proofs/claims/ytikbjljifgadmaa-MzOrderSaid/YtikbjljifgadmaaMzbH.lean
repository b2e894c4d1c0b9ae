/- What is read of a record's bytes: in plain Lean. No condition. -/
import Derived.Test.YtikbjljifgadmaaMzbP
set_option linter.unusedVariables false
set_option linter.unusedSimpArgs false
set_option maxHeartbeats 1000000
set_option maxRecDepth 100000
namespace Go.Es.Mzb
theorem cut_min {α : Type} (l : List α) (k : Nat) : cutL l 0 (mnI (l.length : Int) (k : Int)) = some (l.take k) := by
  rw [mnI_eq, cutL_eq (by omega) (by omega) (by omega)]
  have : (min (l.length : Int) (k : Int)).toNat = min l.length k := by omega
  simp only [Int.toNat_zero, List.drop_zero, Nat.sub_zero, this]
  congr 1
  by_cases h : k ≤ l.length
  · rw [Nat.min_eq_right h]
  · rw [Nat.min_eq_left (by omega), List.take_of_length_le (by omega), List.take_of_length_le (by omega)]
theorem cut_to {α : Type} (l : List α) {k : Nat} (h : k ≤ l.length) : cutL l 0 (k : Int) = some (l.take k) := by
  rw [cutL_eq (by omega) (by omega) (by omega)]; simp
theorem b2s_s2b (s : List UInt8) : b2s (s2b s) = s := by
  simp only [b2s, s2b, List.map_map]
  conv => rhs; rw [← List.map_id s]
  apply List.map_congr_left
  intro c _
  simp
theorem s2b_b2s {l : List Int} (h : ∀ c ∈ l, wfI .u8 c) : s2b (b2s l) = l := by
  simp only [b2s, s2b, List.map_map]
  conv => rhs; rw [← List.map_id l]
  apply List.map_congr_left
  intro c hc
  obtain ⟨h0, h1⟩ := wfI_u8.1 (h c hc)
  simp only [Function.comp, id, UInt8.toNat_ofNat']
  omega
theorem b2s_append (a b : List Int) : b2s (a ++ b) = b2s a ++ b2s b := by simp [b2s]
theorem b2s_cons (a : Int) (b : List Int) : b2s (a :: b) = UInt8.ofNat a.toNat :: b2s b := rfl
theorem s2b_append (a b : List UInt8) : s2b (a ++ b) = s2b a ++ s2b b := by simp [s2b]
theorem s2b_length (s : List UInt8) : (s2b s).length = s.length := by simp [s2b]
theorem b2s_length (s : List Int) : (b2s s).length = s.length := by simp [b2s]
theorem s2b_take (s : List UInt8) (k : Nat) : s2b (s.take k) = (s2b s).take k := by simp [s2b, List.map_take]
theorem s2b_wf (s : List UInt8) : ∀ c ∈ s2b s, wfI .u8 c := by
  intro c hc
  simp only [s2b, List.mem_map] at hc
  obtain ⟨x, _, rfl⟩ := hc
  have := x.toNat_lt
  exact wfI_u8.2 ⟨by omega, by omega⟩

/-! ### sources -/
theorem from_spec (b : List Int) (h : b.length ≤ 2 ^ 40) : index_From b = some ⟨b, 0⟩ := by
  unfold index_From
  rw [grow_eq (by simp; omega) (by simp; omega)]; rfl
theorem take_ok (s : Source) {n : Int} (h0 : 0 ≤ n) (h1 : n ≤ (s.b.length : Int)) : index_Source_Take s n = some (s.b.take n.toNat, ⟨s.b.drop n.toNat, s.e⟩) := by
  unfold index_Source_Take
  have e1 : ¬ n < 0 := by omega
  have e2 : ¬ n > (s.b.length : Int) := by omega
  simp only [e1, e2, decide_false, Bool.false_eq_true, if_false]
  rw [cut3_eq (by omega) h0 (by omega) h1, cutL_eq h0 h1 (by omega)]
  simp only [Option.bind_some, Int.toNat_zero, List.drop_zero, Nat.sub_zero, Int.toNat_natCast]
  have hd : List.take (s.b.length - n.toNat) (List.drop n.toNat s.b) = List.drop n.toNat s.b := List.take_of_length_le (by rw [List.length_drop]; omega)
  rw [hd]
theorem take_short (b : List Int) {n : Int} (h : n < 0 ∨ (b.length : Int) < n) : index_Source_Take ⟨b, 0⟩ n = some ([], ⟨[], 2⟩) := by
  unfold index_Source_Take
  rcases h with h | h
  · simp [h, index_Source_Wrong]
  · by_cases h0 : n < 0
    · simp [h0, index_Source_Wrong]
    · simp [h0, h, index_Source_Wrong]
/-! ### names -/
/-- a name's bytes -/
def enc (s : List UInt8) : List Int := (s.length : Int) :: s2b s
theorem enc_length (s : List UInt8) : (enc s).length = s.length + 1 := by simp [enc, s2b]

/-! ### bytes -/
theorem wrap_u8' (n : Int) : IntKind.wrap .u8 n = n % 256 := by simp [IntKind.wrap, IntKind.bits, IntKind.signed]
/-- the low bytes of a number -/
def le : Int → Nat → List Int
  | _, 0 => []
  | n, k + 1 => n % 256 :: le (n / 256) k
theorem le_length (n : Int) (k : Nat) : (le n k).length = k := by
  induction k generalizing n with
  | zero => rfl
  | succ k ih => simp [le, ih]
theorem le_wf (n : Int) (k : Nat) : ∀ c ∈ le n k, wfI .u8 c := by
  induction k generalizing n with
  | zero => intro c hc; simp [le] at hc
  | succ k ih =>
    intro c hc
    simp only [le, List.mem_cons] at hc
    rcases hc with rfl | hc
    · exact wfI_u8.2 ⟨by omega, by omega⟩
    · exact ih _ c hc
theorem Bytes_spec {n : Int} {k : Nat} (h0 : 0 ≤ n) (h1 : n ≤ 18446744073709551615) (hk : k ≤ 1000) : hansomref18_Bytes n (k : Int) = some (b2s (le n k)) := by
  unfold hansomref18_Bytes
  rw [loop_to (f := fun x : Int × List UInt8 × Int => hansomref18_Bytes_l8 x.1 (k : Int) x.2.1 x.2.2) (fun x => x.2.1 ++ b2s (le x.1 (k - x.2.2.toNat)))
    (fun x => 0 ≤ x.1 ∧ x.1 ≤ 18446744073709551615 ∧ 0 ≤ x.2.2 ∧ x.2.2 ≤ k ∧ (x.2.1.length : Int) = x.2.2) (fun x => (k - x.2.2).toNat) (fun x hx => ?_) ⟨h0, h1, by simp, by simp, by simp⟩]
  · simp
  · obtain ⟨m, s, i⟩ := x
    obtain ⟨a0, a1, a2, a3, a4⟩ := hx
    simp only at a0 a1 a2 a3 a4 ⊢
    unfold hansomref18_Bytes_l8
    by_cases hi : i < (k : Int)
    · left
      rw [Int.tdiv_eq_ediv_of_nonneg a0, Int.tmod_eq_emod_of_nonneg a0, wrapu8 (n := m % 256) (by omega) (by omega), wrap64 (n := i + 1) (by omega) (by omega), wrap_u64', catS_eq (by simp [b2s]; omega)]
      simp only [hi, decide_true, if_true, Option.bind_some]
      have e : k - i.toNat = (k - (i + 1).toNat) + 1 := by omega
      refine ⟨_, rfl, ⟨by simp only; omega, by simp only; omega, by simp only; omega, by simp only; omega, by simp only [List.length_append, b2s_length, List.length_cons, List.length_nil]; omega⟩, by simp only; omega, ?_⟩
      simp only [e, le, b2s_cons, List.append_assoc]
      rw [show m / 256 % 18446744073709551616 = m / 256 by omega]
      rfl
    · right
      have e : k - i.toNat = 0 := by omega
      simp [hi, e, le, b2s]
theorem le_mod {k : Nat} {n : Int} (h : 0 ≤ n) : le (n % 65536) 2 = le n 2 := by
  simp only [le, List.cons.injEq, and_true]
  constructor <;> omega
theorem index_Two_spec {w : Int} (h0 : 0 ≤ w) (h1 : w ≤ 65535) : index_Two w = some (le w 2) := by
  unfold index_Two bits_Low bits_High
  have e : shrI .u16 w 8 = w / 256 := shr_eq (j := 8) (by decide)
  simp only [Option.bind_some, e, wrap_u8', le]
theorem or_u16 {x y : Int} (j : Nat) (a : Nat) (hx : x = ((2 ^ j * a : Nat) : Int)) (hb : 2 ^ j * a + 2 ^ j ≤ 2 ^ 16) (h0 : 0 ≤ y) (h1 : y < (2 ^ j : Nat)) : bitsOp .or .u16 y x = y + x := by
  have e : bitsOp .or .u16 y x = IntKind.wrap .u16 (((BitVec.ofInt 16 y ||| BitVec.ofInt 16 x).toNat : Nat) : Int) := rfl
  have e1 : (BitVec.ofInt 16 x).toNat = 2 ^ j * a := by rw [BitVec.toNat_ofInt]; omega
  have e2 : (BitVec.ofInt 16 y).toNat = y.toNat := by rw [BitVec.toNat_ofInt]; omega
  have h2 : y.toNat < 2 ^ j := by omega
  rw [e, BitVec.toNat_or, e1, e2, Nat.or_comm, ← Nat.two_pow_add_eq_or_of_lt h2, wrapu16 (by omega) (by omega)]
  omega
theorem bits_Word_spec {l h : Int} (l0 : 0 ≤ l) (l1 : l ≤ 255) (h0 : 0 ≤ h) (h1 : h ≤ 255) : bits_Word l h = some (l + h * 256) := by
  unfold bits_Word
  have e : shlI .u16 (IntKind.wrap .u16 h) 8 = h * 256 := by
    rw [wrapu16 (by omega) (by omega)]
    show IntKind.wrap .u16 (h * 256) = _
    exact wrapu16 (by omega) (by omega)
  rw [e, wrapu16 (n := l) (by omega) (by omega), or_u16 8 h.toNat (by omega) (by omega) l0 (by omega)]
theorem word_cons (c d : Int) (r : List Int) (e : Int) (c0 : wfI .u8 c) (d0 : wfI .u8 d) : index_Source_Word ⟨c :: d :: r, e⟩ = some (c + d * 256, ⟨r, e⟩) := by
  obtain ⟨c0, c1⟩ := wfI_u8.1 c0
  obtain ⟨d0, d1⟩ := wfI_u8.1 d0
  unfold index_Source_Word
  rw [take_ok _ (by omega) (by simp only [List.length_cons]; omega)]
  simp [idx, bits_Word_spec c0 c1 d0 d1]
theorem word_short (b : List Int) (h : b.length < 2) : index_Source_Word ⟨b, 0⟩ = some (0, ⟨[], 2⟩) := by
  unfold index_Source_Word
  rw [take_short _ (by omega)]
  simp
theorem word_end : index_Source_Word ⟨[], 2⟩ = some (0, ⟨[], 2⟩) := by
  unfold index_Source_Word index_Source_Take
  simp [index_Source_Wrong]
theorem word_le {w : Int} (h0 : 0 ≤ w) (h1 : w ≤ 65535) (r : List Int) : index_Source_Word ⟨le w 2 ++ r, 0⟩ = some (w, ⟨r, 0⟩) := by
  have := word_cons (w % 256) (w / 256 % 256) r 0 (le_wf w 2 _ (by simp [le])) (le_wf w 2 _ (by simp [le]))
  simp only [le, List.cons_append, List.nil_append, this, Option.some.injEq, Prod.mk.injEq, and_true]
  omega
def rdW : List Int → Option (Int × List Int)
  | c :: d :: r => some (c + d * 256, r)
  | _ => none
theorem word_any (b : List Int) (h : ∀ c ∈ b, wfI .u8 c) : index_Source_Word ⟨b, 0⟩ = some (match rdW b with | some (v, r) => (v, ⟨r, 0⟩) | none => (0, ⟨[], 2⟩)) := by
  match b, h with
  | [], _ => simp [rdW, word_short]
  | [c], _ => simp [rdW, word_short]
  | c :: d :: r, h => simp [rdW, word_cons c d r 0 (h c (by simp)) (h d (by simp))]
theorem rdW_len {b : List Int} {v : Int} {r : List Int} (h : rdW b = some (v, r)) : r.length + 2 = b.length ∧ ∀ c ∈ r, c ∈ b := by
  match b, h with
  | c :: d :: t, h => cases h; exact ⟨by simp, fun c hc => by simp [hc]⟩
theorem rdW_lo {b : List Int} {v : Int} {r : List Int} (hb : ∀ c ∈ b, wfI .u8 c) (h : rdW b = some (v, r)) : 0 ≤ v ∧ v ≤ 65535 := by
  match b, hb, h with
  | c :: d :: t, hb, h =>
    obtain ⟨c0, c1⟩ := wfI_u8.1 (hb c (by simp))
    obtain ⟨d0, d1⟩ := wfI_u8.1 (hb d (by simp))
    cases h; omega
/-! ### sorting of few numbers -/
theorem less_eq (x y : Int) : cmp_Less_int x y = some (decide (x < y)) := by
  unfold cmp_Less_int cmp_isNaN_int
  simp
theorem idx_app_mid {α : Type} (L : List α) (v : α) (r : List α) : idx (L ++ v :: r) (L.length : Int) = some v := by
  rw [idx_nat (by simp)]; simp
theorem set_app_mid {α : Type} (L : List α) (v u : α) (r : List α) : List.set (L ++ v :: r) L.length u = L ++ u :: r := by
  rw [List.set_append_right _ _ (by omega)]; simp
/-- an element goes down to its place -/
theorem ins_eq (data : List Int) (i : Int) (n : Nat) : ∀ (L G rest : List Int) (v : Int), L.length = n → L.length + G.length + rest.length ≤ 1000 → (L ++ G).Pairwise (· ≤ ·) → (∀ g ∈ G, v ≤ g) →
    ∃ S, loopO (fun x : ((List Int) × Int) => slices_insertionSortOrdered_int_l15 data x.1 0 (data.length : Int) i x.2) (L ++ v :: (G ++ rest), (L.length : Int)) = some (S ++ rest) ∧ S.Pairwise (· ≤ ·) ∧ S.Perm (L ++ v :: G) := by
  induction n with
  | zero =>
    intro L G rest v hl _ hs hg
    have : L = [] := List.length_eq_zero_iff.1 hl
    subst this
    refine ⟨v :: G, ?_, ?_, List.Perm.refl _⟩
    · rw [loopO_eq]
      simp only
      unfold slices_insertionSortOrdered_int_l15
      rw [if_neg (by simp)]; rfl
    · exact List.pairwise_cons.2 ⟨hg, by simpa using hs⟩
  | succ n ih =>
    intro L G rest v hl hb hs hg
    obtain ⟨L', u, rfl⟩ : ∃ L' u, L = L' ++ [u] := by
      refine ⟨L.dropLast, L.getLast (by intro h; subst h; cases hl), ?_⟩
      exact (List.dropLast_concat_getLast _).symm
    have hl' : L'.length = n := by simpa using hl
    simp only [List.length_append, List.length_cons, List.length_nil] at hb
    have e1 : ((L' ++ [u]).length : Int) = (L'.length : Int) + 1 := by simp
    have ew : IntKind.wrap .i64 ((L'.length : Int) + 1 - 1) = (L'.length : Int) := by rw [wrap64 (by omega) (by omega)]; omega
    have i1 : idx ((L' ++ [u]) ++ v :: (G ++ rest)) ((L'.length : Int) + 1) = some v := by rw [← e1]; exact idx_app_mid _ _ _
    have i2 : idx ((L' ++ [u]) ++ v :: (G ++ rest)) (L'.length : Int) = some u := by
      rw [List.append_assoc]; exact idx_app_mid _ _ _
    rw [loopO_eq]
    simp only
    rw [e1]
    have step : slices_insertionSortOrdered_int_l15 data ((L' ++ [u]) ++ v :: (G ++ rest)) 0 (data.length : Int) i ((L'.length : Int) + 1) =
        if v < u then some (.next (L' ++ v :: ((u :: G) ++ rest), (L'.length : Int))) else some (.out ((L' ++ [u]) ++ v :: (G ++ rest))) := by
      unfold slices_insertionSortOrdered_int_l15
      have t1 : ((L'.length : Int) + 1).toNat = (L' ++ [u]).length := by simp
      have s1 : List.set ((L' ++ [u]) ++ v :: (G ++ rest)) ((L'.length : Int) + 1).toNat u = (L' ++ [u]) ++ u :: (G ++ rest) := by rw [t1, set_app_mid]
      rw [if_pos (by simp), i1, ew, i2]
      simp only [Option.bind_some, less_eq]
      by_cases c : v < u
      · rw [if_pos (by simpa using c), if_pos c, s1]
        have i3 : idx ((L' ++ [u]) ++ u :: (G ++ rest)) (L'.length : Int) = some u := by rw [List.append_assoc]; exact idx_app_mid _ _ _
        have s2 : List.set ((L' ++ [u]) ++ u :: (G ++ rest)) (L'.length : Int).toNat v = L' ++ v :: ((u :: G) ++ rest) := by
          rw [List.append_assoc, Int.toNat_natCast]
          exact set_app_mid L' u v _
        rw [i3, Option.bind_some, s2]
      · rw [if_neg (by simpa using c), if_neg c]
    rw [step]
    obtain ⟨hs1, hs2, hs3⟩ := List.pairwise_append.1 hs
    obtain ⟨hs4, _, hs5⟩ := List.pairwise_append.1 hs1
    by_cases c : v < u
    · rw [if_pos c]
      simp only [Option.bind_some]
      obtain ⟨S, h1, h2, h3⟩ := ih L' (u :: G) rest v hl' (by simp only [List.length_cons]; omega) (by simpa using hs) (by
        intro g hgm
        rcases List.mem_cons.1 hgm with rfl | hgm
        · omega
        · exact hg g hgm)
      refine ⟨S, h1, h2, h3.trans ?_⟩
      rw [List.append_assoc]
      exact List.Perm.append_left _ (List.Perm.swap _ _ _)
    · rw [if_neg c]
      simp only [Option.bind_some]
      refine ⟨(L' ++ [u]) ++ v :: G, by simp, ?_, List.Perm.refl _⟩
      refine List.pairwise_append.2 ⟨hs1, List.pairwise_cons.2 ⟨hg, hs2⟩, ?_⟩
      intro a ha b hb
      have hau : a ≤ u := by
        rcases List.mem_append.1 ha with ha | ha
        · exact hs5 a ha u (by simp)
        · simp only [List.mem_singleton] at ha; omega
      rcases List.mem_cons.1 hb with rfl | hb
      · omega
      · exact hs3 a ha b hb
theorem insort_from (data : List Int) : ∀ (rest S : List Int), S.length + rest.length = data.length → data.length ≤ 1000 → S.Pairwise (· ≤ ·) →
    ∃ S', loopO (fun x : ((List Int) × Int) => slices_insertionSortOrdered_int_l3 data x.1 0 (data.length : Int) x.2) (S ++ rest, (S.length : Int)) = some S' ∧ S'.Pairwise (· ≤ ·) ∧ S'.Perm (S ++ rest) := by
  intro rest
  induction rest with
  | nil =>
    intro S hl _ hs
    simp only [List.length_nil] at hl
    refine ⟨S, ?_, hs, by simp⟩
    rw [loopO_eq]
    simp only
    unfold slices_insertionSortOrdered_int_l3
    rw [if_neg (by simp; omega), List.append_nil]; rfl
  | cons v rest ih =>
    intro S hl hm hs
    simp only [List.length_cons] at hl
    obtain ⟨S1, h1, h2, h3⟩ := ins_eq data (S.length : Int) S.length S [] rest v rfl (by simp; omega) (by simpa using hs) (by simp)
    simp only [List.nil_append] at h1
    have hl1 : S1.length = S.length + 1 := by have := h3.length_eq; simpa using this
    obtain ⟨S', h4, h5, h6⟩ := ih S1 (by omega) hm h2
    refine ⟨S', ?_, h5, h6.trans ?_⟩
    · rw [loopO_eq]
      simp only
      unfold slices_insertionSortOrdered_int_l3
      rw [if_pos (by simp; omega), h1]
      simp only [Option.bind_some]
      rw [wrap64 (n := (S.length : Int) + 1) (by omega) (by omega), show (S.length : Int) + 1 = (S1.length : Int) from by omega]
      exact h4
    · have := h3.append_right rest
      simpa using this
theorem insort (data : List Int) (hm : data.length ≤ 1000) : ∃ S, slices_insertionSortOrdered_int data 0 (data.length : Int) = some S ∧ S.Pairwise (· ≤ ·) ∧ S.Perm data := by
  unfold slices_insertionSortOrdered_int
  have fin : ∀ S : List Int, S.Perm data → (if S.length = data.length then some S else none) = some S := fun S h => if_pos h.length_eq
  cases data with
  | nil =>
    refine ⟨[], ?_, List.Pairwise.nil, List.Perm.refl _⟩
    rw [loopO_eq]
    simp only
    unfold slices_insertionSortOrdered_int_l3
    rw [if_neg (by decide)]; rfl
  | cons v rest =>
    obtain ⟨S, h1, h2, h3⟩ := insort_from (v :: rest) rest [v] (by simp; omega) hm (List.pairwise_singleton _ _)
    refine ⟨S, ?_, h2, by simpa using h3⟩
    rw [show IntKind.wrap .i64 (0 + 1) = (([v] : List Int).length : Int) from rfl]
    rw [show v :: rest = [v] ++ rest from rfl] at h1 ⊢
    rw [h1, Option.bind_some]
    exact fin S (by simpa using h3)
theorem sort_eq (data : List Int) (hm : data.length ≤ 12) : ∃ S, slices_Sort_Lint data = some S ∧ S.Pairwise (· ≤ ·) ∧ S.Perm data := by
  obtain ⟨S, h1, h2, h3⟩ := insort data (by omega)
  refine ⟨S, ?_, h2, h3⟩
  unfold slices_Sort_Lint
  have hlen : ∃ b, math_bits_Len (IntKind.wrap .u64 (data.length : Int)) = some b := by
    have : ∀ n : Nat, n < 13 → ∃ b, math_bits_Len (IntKind.wrap .u64 (n : Int)) = some b := by
      intro n hn
      match n, hn with
      | 0, _ => exact ⟨_, rfl⟩
      | 1, _ => exact ⟨_, rfl⟩
      | 2, _ => exact ⟨_, rfl⟩
      | 3, _ => exact ⟨_, rfl⟩
      | 4, _ => exact ⟨_, rfl⟩
      | 5, _ => exact ⟨_, rfl⟩
      | 6, _ => exact ⟨_, rfl⟩
      | 7, _ => exact ⟨_, rfl⟩
      | 8, _ => exact ⟨_, rfl⟩
      | 9, _ => exact ⟨_, rfl⟩
      | 10, _ => exact ⟨_, rfl⟩
      | 11, _ => exact ⟨_, rfl⟩
      | 12, _ => exact ⟨_, rfl⟩
      | n + 13, h => omega
    exact this data.length (by omega)
  obtain ⟨b, hb⟩ := hlen
  rw [hb, Option.bind_some]
  unfold slices_pdqsortOrdered_int
  rw [loopO_eq]
  have : slices_pdqsortOrdered_int_l5 data 0 (data.length : Int) b true true = some (.out S) := by
    unfold slices_pdqsortOrdered_int_l5
    rw [if_pos (by rw [wrap64 (by omega) (by omega)]; simp; omega), h1]; rfl
  rw [this]; rfl
/-- what is sorted is found again -/
theorem sort_perm {data R : List Int} (hm : data.length ≤ 12) (hp : data.Perm R) (hs : R.Pairwise (· ≤ ·)) : slices_Sort_Lint data = some R := by
  obtain ⟨S, h1, h2, h3⟩ := sort_eq data hm
  rw [h1, List.Perm.eq_of_pairwise (fun a b _ _ h h' => by omega) h2 hs (h3.trans hp)]
/-! loops over a list, prefix by prefix -/
theorem pre_loop {α τ β : Type} (R : List α) (T : List α → τ) (J : List α → Prop) {f : τ → Option (Lp τ β)} (o : β)
    (h1 : ∀ xs v ys, R = xs ++ v :: ys → J xs → (f (T xs) = some (.next (T (xs ++ [v]))) ∧ J (xs ++ [v])) ∨ f (T xs) = some (.out o))
    (h2 : J R → f (T R) = some (.out o)) (h0 : J []) : loopO f (T []) = some o := by
  have key : ∀ ys xs, R = xs ++ ys → J xs → loopO f (T xs) = some o := by
    intro ys
    induction ys with
    | nil =>
      intro xs h hJ
      rw [List.append_nil] at h; subst h
      rw [loopO_eq, h2 hJ]; rfl
    | cons v ys ih =>
      intro xs h hJ
      rcases h1 xs v ys h hJ with ⟨h3, h4⟩ | h3
      · rw [loopO_eq, h3]
        exact ih (xs ++ [v]) (by rw [h, List.append_assoc]; rfl) h4
      · rw [loopO_eq, h3]; rfl
  exact key R [] rfl h0
theorem idx_mid {α : Type} {R xs ys : List α} {v : α} (h : R = xs ++ v :: ys) : idx R (xs.length : Int) = some v := by
  subst h
  rw [idx_nat (by simp)]
  simp
theorem idx_mid_map {α β : Type} {R xs ys : List α} {v : α} (g : α → β) (h : R = xs ++ v :: ys) : idx (R.map g) (xs.length : Int) = some (g v) := by
  subst h
  rw [idx_nat (by simp)]
  simp
theorem len_lt {α : Type} {R xs ys : List α} {v : α} (h : R = xs ++ v :: ys) : xs.length < R.length := by subst h; simp
theorem len_snoc {α : Type} (xs : List α) (v : α) (h : (xs.length : Int) ≤ 1000) : IntKind.wrap .i64 ((xs.length : Int) + 1) = ((xs ++ [v]).length : Int) := by
  rw [wrap64 (by omega) (by omega)]; simp
theorem cut_mid {α : Type} (A M Z : List α) {lo hi : Int} (h1 : lo = (A.length : Int)) (h2 : hi = lo + (M.length : Int)) : cutL (A ++ (M ++ Z)) lo hi = some M := by
  subst h1; subst h2
  rw [cutL_eq (by omega) (by omega) (by simp only [List.length_append]; omega)]
  have : ((A.length : Int) + (M.length : Int)).toNat - (A.length : Int).toNat = M.length := by omega
  rw [this, Int.toNat_natCast, List.drop_left, List.take_left]
theorem and_mask' {x : Int} {m : Int} (j : Nat) (hj : j ≤ 62) (hm : m = ((2 ^ j - 1 : Nat) : Int)) : bitsOp .and .i64 x m = x % (2 ^ j : Nat) := by
  subst hm; exact and_mask x j hj
theorem and_u32 {x : Int} {m : Int} (j : Nat) (hj : j ≤ 31) (hm : m = ((2 ^ j - 1 : Nat) : Int)) (h0 : 0 ≤ x) (h1 : x < 4294967296) : bitsOp .and .u32 x m = x % (2 ^ j : Nat) := by
  subst hm
  have hp : 2 ^ j ≤ 2 ^ 31 := Nat.pow_le_pow_right (by omega) hj
  have hq : 0 < 2 ^ j := Nat.two_pow_pos j
  have e : bitsOp .and .u32 x ((2 ^ j - 1 : Nat) : Int) = IntKind.wrap .u32 (((BitVec.ofInt 32 x &&& BitVec.ofInt 32 ((2 ^ j - 1 : Nat) : Int)).toNat : Nat) : Int) := rfl
  have e1 : (BitVec.ofInt 32 ((2 ^ j - 1 : Nat) : Int)).toNat = 2 ^ j - 1 := by rw [BitVec.toNat_ofInt]; omega
  have e2 : (BitVec.ofInt 32 x).toNat = x.toNat := by rw [BitVec.toNat_ofInt]; omega
  rw [e, BitVec.toNat_and, e1, e2, Nat.and_two_pow_sub_one_eq_mod, IntKind.wrap_u32]
  have : x.toNat % 2 ^ j < 2 ^ j := Nat.mod_lt _ hq
  have h3 : ((x.toNat % 2 ^ j : Nat) : Int) = x % (2 ^ j : Nat) := by rw [Int.natCast_emod, Int.toNat_of_nonneg h0]
  rw [h3]
  rw [← h3]
  omega
theorem wrapu32 {n : Int} (h0 : 0 ≤ n) (h1 : n < 4294967296) : IntKind.wrap .u32 n = n := by rw [IntKind.wrap_u32]; omega
theorem wrapu64 {n : Int} (h0 : 0 ≤ n) (h1 : n < 18446744073709551616) : IntKind.wrap .u64 n = n := by rw [wrap_u64']; omega
/-- a small program that may be -/
structure Ok (y : Image) : Prop where
  b8 : ∀ c ∈ y.Bytes, wfI .u8 c
  bl : y.Bytes.length ≤ 600
  rl : y.Relocs.length ≤ 6
  rr : ∀ r ∈ y.Relocs, 0 ≤ r ∧ r + 2 ≤ (y.Bytes.length : Int)
  rp : y.Relocs.Pairwise (fun a b => a + 2 ≤ b)
  m0 : 0 ≤ y.Min
  m1 : y.Min ≤ 255
  cs : wfI .u16 y.CS
  ip : wfI .u16 y.IP
  ss : wfI .u16 y.SS
  sp : wfI .u16 y.SP
theorem near_ok (x : Image) (w : x.wf) : ∃ y, hansomref44_Near x = some y ∧ Ok y := by
  obtain ⟨⟨wl, wb⟩, ⟨wr, _⟩, w3, w4, w5, w6, w7⟩ := w
  unfold hansomref44_Near
  rw [mnI_eq, cutL_eq (by omega) (by omega) (by omega), Option.bind_some]
  have hB8 : ∀ c ∈ ((x.Bytes.drop (0 : Int).toNat).take ((min (x.Bytes.length : Int) 600).toNat - (0 : Int).toNat)), wfI .u8 c := fun c hc => wb c (List.mem_of_mem_drop (List.mem_of_mem_take hc))
  have hlen : ((x.Bytes.drop (0 : Int).toNat).take ((min (x.Bytes.length : Int) 600).toNat - (0 : Int).toNat)).length ≤ 600 := by
    rw [List.length_take]; omega
  generalize (x.Bytes.drop (0 : Int).toNat).take ((min (x.Bytes.length : Int) 600).toNat - (0 : Int).toNat) = B at hlen hB8
  have hg : grow 1 ([] : List Int) B = some B := by rw [grow_eq (by simp; omega) (by simp; omega)]; rfl
  rw [hg, Option.bind_some]
  obtain ⟨e, h1, h2⟩ := loop_rule (f := fun z : (Image × Int × Int) => hansomref44_Near_l14 x z.1 z.2.1 z.2.2)
    (fun z => (z.1.Bytes = B ∧ z.1.CS = x.CS ∧ z.1.IP = x.IP ∧ z.1.SS = x.SS ∧ z.1.SP = x.SP) ∧ 0 ≤ z.2.2 ∧ z.2.2 ≤ 6 ∧ (z.1.Relocs.length : Int) = z.2.2 ∧ 0 ≤ z.2.1 ∧ z.2.1 ≤ 600 ∧ (∀ r ∈ z.1.Relocs, 0 ≤ r ∧ r + 2 ≤ z.2.1 ∧ r + 2 ≤ (B.length : Int)) ∧ z.1.Relocs.Pairwise (fun a b => a + 2 ≤ b))
    (fun z => (7 - z.2.2).toNat)
    (fun y => (y.Bytes = B ∧ y.CS = x.CS ∧ y.IP = x.IP ∧ y.SS = x.SS ∧ y.SP = x.SP) ∧ y.Relocs.length ≤ 6 ∧ (∀ r ∈ y.Relocs, 0 ≤ r ∧ r + 2 ≤ (B.length : Int)) ∧ y.Relocs.Pairwise (fun a b => a + 2 ≤ b)) (by
      rintro ⟨y, a, i⟩ ⟨hb, h0, h6, hl, ha0, ha1, hm, hp⟩
      simp only at hb h0 h6 hl ha0 ha1 hm hp ⊢
      have fin : (y.Bytes = B ∧ y.CS = x.CS ∧ y.IP = x.IP ∧ y.SS = x.SS ∧ y.SP = x.SP) ∧ y.Relocs.length ≤ 6 ∧ (∀ r ∈ y.Relocs, 0 ≤ r ∧ r + 2 ≤ (B.length : Int)) ∧ y.Relocs.Pairwise (fun a b => a + 2 ≤ b) :=
        ⟨hb, by omega, fun r hr => ⟨(hm r hr).1, (hm r hr).2.2⟩, hp⟩
      unfold hansomref44_Near_l14
      by_cases c1 : i < (x.Relocs.length : Int)
      · by_cases c2 : i < 6
        · have hz := idx_eq (l := x.Relocs) h0 c1
          generalize x.Relocs[i.toNat]'(by omega) = z at hz
          have h64 : bitsOp .and .i64 z 63 = z % 64 := and_mask' 6 (by omega) rfl
          rw [if_pos (by simpa using c1), if_pos (by simpa using c2), hz, Option.bind_some, h64, wrap64 (n := a + z % 64) (by omega) (by omega), wrap64 (n := a + z % 64 + 2) (by omega) (by omega)]
          by_cases c3 : a + z % 64 + 2 > (y.Bytes.length : Int)
          · rw [if_pos (by simpa using c3)]
            exact .inr ⟨y, rfl, fin⟩
          · rw [hb.1] at c3
            rw [if_neg (by rw [hb.1]; simpa using c3), grow_eq (by simp only [List.length_cons, List.length_nil]; omega) (by simp only [List.length_cons, List.length_nil]; omega), Option.bind_some, wrap64 (n := i + 1) (by omega) (by omega)]
            refine .inl ⟨_, rfl, ⟨hb, by simp only; omega, by simp only; omega, by simp only [List.length_append, List.length_cons, List.length_nil]; omega, by simp only; omega, by simp only; omega, ?_, ?_⟩, by simp only; omega⟩
            · intro r hr
              simp only at hr ⊢
              rcases List.mem_append.1 hr with hr | hr
              · have := hm r hr; omega
              · simp only [List.mem_singleton] at hr; omega
            · simp only
              refine List.pairwise_append.2 ⟨hp, List.pairwise_singleton _ _, ?_⟩
              intro p hpm q hq
              simp only [List.mem_singleton] at hq
              have := hm p hpm; omega
        · rw [if_pos (by simpa using c1), if_neg (by simpa using c2)]
          exact .inr ⟨y, rfl, fin⟩
      · rw [if_neg (by simpa using c1)]
        exact .inr ⟨y, rfl, fin⟩) (x := (({ x with Bytes := B, Relocs := ([] : List Int) } : Image), 0, 0)) ⟨⟨rfl, rfl, rfl, rfl, rfl⟩, by simp, by simp, by simp, by simp, by simp, by simp, by simp⟩
  rw [h1, Option.bind_some]
  have h255 : bitsOp .and .i64 x.Min 255 = x.Min % 256 := and_mask' 8 (by omega) rfl
  obtain ⟨⟨hb, hcs, hip, hss, hsp⟩, h3, h4, h5⟩ := h2
  refine ⟨_, rfl, ⟨?_, ?_, h3, ?_, h5, ?_, ?_, ?_, ?_, ?_, ?_⟩⟩
  · simp only [hb]; exact hB8
  · simp only [hb]; exact hlen
  · simp only [hb]; exact h4
  · simp only [h255]; omega
  · simp only [h255]; omega
  · simp only [hcs]; exact w3
  · simp only [hip]; exact w4
  · simp only [hss]; exact w5
  · simp only [hsp]; exact w6
/-! ### the file -/
def hdI (r : Int) : Int := (28 + 4 * r + 15) / 16 * 16
def all_ (y : Image) : Int := hdI (y.Relocs.length : Int) + (y.Bytes.length : Int)
def WL (y : Image) : List Int := [all_ y % 512, (all_ y + 511) / 512, (y.Relocs.length : Int), hdI (y.Relocs.length : Int) / 16, y.Min, 65535, y.SS, y.SP, 0, y.IP, y.CS, 28, 0]
def tw2 (l : List Int) : List Int := l.flatMap (le · 2)
def HB (y : Image) : List Int := [77, 90] ++ tw2 (WL y)
def ent (p : Int × Int) : List Int := le p.1 2 ++ le p.2 2
def EB (E : List (Int × Int)) : List Int := E.flatMap ent
def PD (y : Image) : List Int := List.replicate (hdI (y.Relocs.length : Int) - 28 - 4 * (y.Relocs.length : Int)).toNat 0
def ents (y : Image) : List (Int × Int) := y.Relocs.map fun x => (x % 16, x / 16)
def FB (y : Image) (E : List (Int × Int)) : List Int := HB y ++ (EB E ++ (PD y ++ y.Bytes))
theorem tw2_length (l : List Int) : (tw2 l).length = 2 * l.length := by
  unfold tw2
  induction l with
  | nil => rfl
  | cons a l ih => rw [List.flatMap_cons, List.length_append, ih, le_length, List.length_cons]; omega
theorem EB_length (l : List (Int × Int)) : (EB l).length = 4 * l.length := by
  unfold EB
  induction l with
  | nil => rfl
  | cons a l ih => rw [List.flatMap_cons, List.length_append, ih, List.length_cons]; simp only [ent, List.length_append, le_length]; omega
theorem HB_length (y : Image) : (HB y).length = 28 := by
  unfold HB; rw [List.length_append, tw2_length]; rfl
theorem hd_in {r : Int} (h0 : 0 ≤ r) (h1 : r ≤ 6) : 32 ≤ hdI r ∧ hdI r ≤ 64 ∧ 28 + 4 * r ≤ hdI r ∧ hdI r % 16 = 0 := by unfold hdI; omega
theorem WL_in {y : Image} (h : Ok y) : ∀ w ∈ WL y, 0 ≤ w ∧ w ≤ 65535 := by
  have hh := hd_in (r := (y.Relocs.length : Int)) (by omega) (by have := h.rl; omega)
  have h1 := h.bl; have h2 := h.rl; have h3 := h.m0; have h4 := h.m1
  have c1 := wfI_u16.1 h.cs; have c2 := wfI_u16.1 h.ip; have c3 := wfI_u16.1 h.ss; have c4 := wfI_u16.1 h.sp
  intro w hw
  unfold WL all_ at hw
  simp only [List.mem_cons, List.not_mem_nil, or_false] at hw
  rcases hw with rfl | rfl | rfl | rfl | rfl | rfl | rfl | rfl | rfl | rfl | rfl | rfl | rfl <;> omega
theorem tw2_wf (l : List Int) : ∀ c ∈ tw2 l, wfI .u8 c := by
  intro c hc
  obtain ⟨a, _, ha⟩ := List.mem_flatMap.1 hc
  exact le_wf _ _ _ ha
theorem HB_wf (y : Image) : ∀ c ∈ HB y, wfI .u8 c := by
  intro c hc
  rcases List.mem_append.1 hc with hc | hc
  · simp only [List.mem_cons, List.not_mem_nil, or_false] at hc
    rcases hc with rfl | rfl <;> exact wfI_u8.2 ⟨by omega, by omega⟩
  · exact tw2_wf _ c hc
theorem EB_wf (E : List (Int × Int)) : ∀ c ∈ EB E, wfI .u8 c := by
  intro c hc
  obtain ⟨p, _, ha⟩ := List.mem_flatMap.1 hc
  rcases List.mem_append.1 ha with h | h <;> exact le_wf _ _ _ h
theorem PD_wf (y : Image) : ∀ c ∈ PD y, wfI .u8 c := by
  intro c hc
  rw [(List.mem_replicate.1 hc).2]; exact wfI_u8.2 ⟨by omega, by omega⟩
theorem FB_wf {y : Image} (h : Ok y) (E : List (Int × Int)) : ∀ c ∈ FB y E, wfI .u8 c := by
  intro c hc
  unfold FB at hc
  rcases List.mem_append.1 hc with hc | hc
  · exact HB_wf y c hc
  · rcases List.mem_append.1 hc with hc | hc
    · exact EB_wf E c hc
    · rcases List.mem_append.1 hc with hc | hc
      · exact PD_wf y c hc
      · exact h.b8 c hc
theorem FB_length {y : Image} (h : Ok y) (E : List (Int × Int)) (he : E.length = y.Relocs.length) : ((FB y E).length : Int) = all_ y := by
  have hh := hd_in (r := (y.Relocs.length : Int)) (by omega) (by have := h.rl; omega)
  unfold FB PD all_
  simp only [List.length_append, HB_length, EB_length, he, List.length_replicate]
  omega
/-- the document's file -/
theorem ref_write {y : Image} (h : Ok y) : hansomref44_Write y = some (b2s (FB y (ents y))) := by
  have h2 := h.rl; have h3 := h.bl
  have hh := hd_in (r := (y.Relocs.length : Int)) (by omega) (by omega)
  unfold hansomref44_Write
  have eh : IntKind.wrap .i64 ((IntKind.wrap .i64 (Int.tdiv (IntKind.wrap .i64 ((IntKind.wrap .i64 (28 + (IntKind.wrap .i64 (4 * (y.Relocs.length : Int))))) + 15)) 16)) * 16) = hdI (y.Relocs.length : Int) := by
    unfold hdI
    rw [wrap64 (n := 4 * (y.Relocs.length : Int)) (by omega) (by omega), wrap64 (n := 28 + 4 * (y.Relocs.length : Int)) (by omega) (by omega), wrap64 (n := 28 + 4 * (y.Relocs.length : Int) + 15) (by omega) (by omega), Int.tdiv_eq_ediv_of_nonneg (by omega), wrap64 (n := _ / 16) (by omega) (by omega), wrap64 (by omega) (by omega)]
  rw [eh]
  have hc1 := wfI_u16.1 h.cs; have hc2 := wfI_u16.1 h.ip; have hc3 := wfI_u16.1 h.ss; have hc4 := wfI_u16.1 h.sp
  have el : ([(Int.tmod (IntKind.wrap .i64 (hdI (y.Relocs.length : Int) + (y.Bytes.length : Int))) 512), (IntKind.wrap .i64 (Int.tdiv (IntKind.wrap .i64 ((IntKind.wrap .i64 (hdI (y.Relocs.length : Int) + (y.Bytes.length : Int))) + 511)) 512)), (y.Relocs.length : Int), (IntKind.wrap .i64 (Int.tdiv (hdI (y.Relocs.length : Int)) 16)), y.Min, 65535, (IntKind.wrap .i64 y.SS), (IntKind.wrap .i64 y.SP), 0, (IntKind.wrap .i64 y.IP), (IntKind.wrap .i64 y.CS), 28, 0] : List Int) = WL y := by
    unfold WL all_
    rw [wrap64 (n := hdI (y.Relocs.length : Int) + (y.Bytes.length : Int)) (by omega) (by omega), Int.tmod_eq_emod_of_nonneg (by omega), wrap64 (n := hdI (y.Relocs.length : Int) + (y.Bytes.length : Int) + 511) (by omega) (by omega), Int.tdiv_eq_ediv_of_nonneg (by omega), Int.tdiv_eq_ediv_of_nonneg (by omega),
      wrap64 (n := _ / 512) (by omega) (by omega), wrap64 (n := _ / 16) (by omega) (by omega), wrap64 (n := y.SS) (by omega) (by omega), wrap64 (n := y.SP) (by omega) (by omega), wrap64 (n := y.IP) (by omega) (by omega), wrap64 (n := y.CS) (by omega) (by omega)]
  rw [el]
  have l1 : loopO (fun x : ((List UInt8) × Int) => hansomref44_Write_l14 y (hdI (y.Relocs.length : Int)) x.1 (WL y) x.2) (([77, 90] : List UInt8), 0) = some (b2s (HB y)) := by
    refine pre_loop (WL y) (fun xs => (b2s ([77, 90] ++ tw2 xs), (xs.length : Int))) (fun _ => True) _ (fun xs v ys e _ => .inl ⟨?_, trivial⟩) (fun _ => ?_) trivial
    · have hl := len_lt e
      have hw : (WL y).length = 13 := rfl
      have hv := WL_in h v (by rw [e]; simp)
      show hansomref44_Write_l14 y (hdI (y.Relocs.length : Int)) (b2s ([77, 90] ++ tw2 xs)) (WL y) (xs.length : Int) = _
      unfold hansomref44_Write_l14
      have hb : hansomref18_Bytes v 2 = some (b2s (le v 2)) := Bytes_spec (n := v) (k := 2) hv.1 (by omega) (by omega)
      have t2 := tw2_length xs
      rw [if_pos (by simpa using hl), idx_mid e, Option.bind_some, wrapu64 hv.1 (by omega), hb, Option.bind_some, catS_eq (by simp only [b2s_length, List.length_append, List.length_cons, List.length_nil, le_length]; omega), Option.bind_some, len_snoc xs v (by omega), ← b2s_append]
      simp only [tw2, List.flatMap_append, List.flatMap_cons, List.flatMap_nil, List.append_nil, List.append_assoc]
    · show hansomref44_Write_l14 y (hdI (y.Relocs.length : Int)) (b2s ([77, 90] ++ tw2 (WL y))) (WL y) ((WL y).length : Int) = _
      unfold hansomref44_Write_l14
      rw [if_neg (by simp)]; rfl
  rw [l1, Option.bind_some]
  have l2 : loopO (fun x : ((List UInt8) × Int) => hansomref44_Write_l29 y (hdI (y.Relocs.length : Int)) x.1 x.2) (b2s (HB y), 0) = some (b2s (HB y ++ EB (ents y))) := by
    have e0 : b2s (HB y) = b2s (HB y ++ EB (([] : List Int).map fun x => (x % 16, x / 16))) := by simp [EB]
    rw [e0]
    refine pre_loop y.Relocs (fun xs => (b2s (HB y ++ EB (xs.map fun x => (x % 16, x / 16))), (xs.length : Int))) (fun _ => True) _ (fun xs v ys e _ => .inl ⟨?_, trivial⟩) (fun _ => ?_) trivial
    · have hl := len_lt e
      have hv := h.rr v (by rw [e]; simp)
      show hansomref44_Write_l29 y (hdI (y.Relocs.length : Int)) (b2s (HB y ++ EB (xs.map fun x => (x % 16, x / 16)))) (xs.length : Int) = _
      unfold hansomref44_Write_l29
      have hb1 : hansomref18_Bytes (v % 16) 2 = some (b2s (le (v % 16) 2)) := Bytes_spec (n := v % 16) (k := 2) (by omega) (by omega) (by omega)
      have hb2 : hansomref18_Bytes (v / 16) 2 = some (b2s (le (v / 16) 2)) := Bytes_spec (n := v / 16) (k := 2) (by omega) (by omega) (by omega)
      have t2 := EB_length (xs.map fun x => (x % 16, x / 16)); have t3 := HB_length y
      rw [List.length_map] at t2
      rw [if_pos (by simpa using hl), idx_mid e, Option.bind_some, Int.tmod_eq_emod_of_nonneg hv.1, wrapu64 (n := v % 16) (by omega) (by omega), hb1, Option.bind_some, Option.bind_some, Int.tdiv_eq_ediv_of_nonneg hv.1, wrap64 (n := v / 16) (by omega) (by omega), wrapu64 (n := v / 16) (by omega) (by omega), hb2, Option.bind_some,
        catS_eq (by simp only [b2s_length, le_length]; omega), Option.bind_some, catS_eq (by simp only [b2s_length, List.length_append, le_length]; omega), Option.bind_some, len_snoc xs v (by omega), ← b2s_append, ← b2s_append]
      simp only [EB, ent, List.map_append, List.map_cons, List.map_nil, List.flatMap_append, List.flatMap_cons, List.flatMap_nil, List.append_nil, List.append_assoc]
    · show hansomref44_Write_l29 y (hdI (y.Relocs.length : Int)) (b2s (HB y ++ EB (y.Relocs.map fun x => (x % 16, x / 16)))) (y.Relocs.length : Int) = _
      unfold hansomref44_Write_l29
      rw [if_neg (by simp)]; rfl
  rw [l2, Option.bind_some]
  have l3 : loopO (fun x : (List UInt8) => hansomref44_Write_l42 y (hdI (y.Relocs.length : Int)) x) (b2s (HB y ++ EB (ents y))) = some (b2s (HB y ++ EB (ents y) ++ PD y)) := by
    have e0 : b2s (HB y ++ EB (ents y)) = b2s (HB y ++ EB (ents y) ++ ([] : List Int)) := by simp
    rw [e0]
    have t2 := EB_length (ents y); have t3 := HB_length y
    have t4 : (ents y).length = y.Relocs.length := by unfold ents; rw [List.length_map]
    have t5 : ((PD y).length : Int) = hdI (y.Relocs.length : Int) - 28 - 4 * (y.Relocs.length : Int) := by unfold PD; rw [List.length_replicate]; omega
    refine pre_loop (PD y) (fun xs => b2s (HB y ++ EB (ents y) ++ xs)) (fun _ => True) _ (fun xs v ys e _ => .inl ⟨?_, trivial⟩) (fun _ => ?_) trivial
    · have hl := len_lt e
      have hv : v = 0 := (List.mem_replicate.1 (show v ∈ PD y by rw [e]; simp)).2
      subst hv
      show hansomref44_Write_l42 y (hdI (y.Relocs.length : Int)) (b2s (HB y ++ EB (ents y) ++ xs)) = _
      unfold hansomref44_Write_l42
      rw [if_pos (by simp only [b2s_length, List.length_append, decide_eq_true_eq]; omega), catS_eq (by simp only [b2s_length, List.length_append, List.length_cons, List.length_nil]; omega), Option.bind_some, ← List.append_assoc, b2s_append (HB y ++ EB (ents y) ++ xs) [0]]
      rfl
    · show hansomref44_Write_l42 y (hdI (y.Relocs.length : Int)) (b2s (HB y ++ EB (ents y) ++ PD y)) = _
      unfold hansomref44_Write_l42
      rw [if_neg (by simp only [b2s_length, List.length_append, decide_eq_true_eq]; omega)]
  rw [l3, Option.bind_some]
  have t2 := EB_length (ents y); have t3 := HB_length y
  have t4 : (ents y).length = y.Relocs.length := by unfold ents; rw [List.length_map]
  have t5 : (PD y).length ≤ 100 := by unfold PD; rw [List.length_replicate]; omega
  rw [catS_eq (by simp only [b2s_length, List.length_append]; omega), Option.bind_some, ← b2s_append]
  unfold FB
  simp only [List.append_assoc]
theorem paras_in {k : Int} (h0 : 0 ≤ k) (h1 : k ≤ 700) : ∃ p, bits_Paras k = some p ∧ 0 ≤ p ∧ p ≤ 100 := by
  unfold bits_Paras
  by_cases c : k < 1
  · rw [if_pos (by simpa using c)]; exact ⟨0, rfl, by omega, by omega⟩
  · rw [if_neg (by simpa using c), wrap64 (n := k - 1) (by omega) (by omega), Int.tdiv_eq_ediv_of_nonneg (by omega), wrap64 (n := (k - 1) / 16) (by omega) (by omega), wrap64 (by omega) (by omega)]
    exact ⟨_, rfl, by omega, by omega⟩
theorem prev_in {α : Type} {R xs ys : List α} {v : α} (h : R = xs ++ v :: ys) (h0 : 0 < xs.length) : ∃ u, idx R ((xs.length : Int) - 1) = some u ∧ ∃ zs, R = zs ++ u :: v :: ys := by
  refine ⟨xs.getLast (by intro e; rw [e] at h0; simp at h0), ?_, xs.dropLast, ?_⟩
  · have e : R = xs.dropLast ++ xs.getLast (by intro e; rw [e] at h0; simp at h0) :: (v :: ys) := by
      have := List.dropLast_concat_getLast (l := xs) (by intro e; rw [e] at h0; simp at h0)
      rw [h]
      conv => lhs; rw [← this]
      simp
    have := idx_mid e
    rw [List.length_dropLast] at this
    rw [show (xs.length : Int) - 1 = ((xs.length - 1 : Nat) : Int) from by omega]
    exact this
  · have := List.dropLast_concat_getLast (l := xs) (by intro e; rw [e] at h0; simp at h0)
    rw [h]
    conv => lhs; rw [← this]
    simp
theorem pair_in {R zs ys : List Int} {u v : Int} (hp : R.Pairwise (fun a b => a + 2 ≤ b)) (h : R = zs ++ u :: v :: ys) : u + 2 ≤ v := by
  rw [h] at hp
  have := (List.pairwise_append.1 hp).2.1
  exact (List.pairwise_cons.1 this).1 v (by simp)
theorem may_ok {y : Image} (h : Ok y) : mz_May y = some true := by
  have h1 := h.bl; have h2 := h.rl; have h3 := h.m0; have h4 := h.m1
  unfold mz_May
  obtain ⟨p, hp, p0, p1⟩ := paras_in (k := (y.Bytes.length : Int)) (by omega) (by omega)
  rw [if_neg (by simp; omega), if_neg (by simp; omega), hp, Option.bind_some, wrap64 (n := 40960 - p) (by omega) (by omega), if_neg (by simp; omega), if_neg (by simp; omega)]
  have key : loopO (fun x : Int => mz_May_l14 y y.Relocs (y.Relocs.length : Int) x) 0 = some (.inr ()) := by
    refine pre_loop y.Relocs (fun xs => (xs.length : Int)) (fun _ => True) _ (fun xs v ys e _ => .inl ⟨?_, trivial⟩) (fun _ => ?_) trivial
    · have hl := len_lt e
      have hv := h.rr v (by rw [e]; simp)
      show mz_May_l14 y y.Relocs (y.Relocs.length : Int) (xs.length : Int) = _
      unfold mz_May_l14
      rw [if_pos (by simpa using hl), idx_mid e, Option.bind_some, if_neg (by simp; omega), wrap64 (n := (y.Bytes.length : Int) - 2) (by omega) (by omega), if_neg (by simp; omega), len_snoc xs v (by omega)]
      by_cases c : (xs.length : Int) > 0
      · obtain ⟨u, hu, zs, hz⟩ := prev_in e (by omega)
        have := pair_in h.rp hz
        have hu2 := h.rr u (by rw [hz]; simp)
        rw [if_pos (by simpa using c), wrap64 (n := (xs.length : Int) - 1) (by omega) (by omega), hu, Option.bind_some, wrap64 (n := v - u) (by omega) (by omega), if_neg (by simp; omega)]
      · rw [if_neg (by simpa using c)]
    · show mz_May_l14 y y.Relocs (y.Relocs.length : Int) (y.Relocs.length : Int) = _
      unfold mz_May_l14
      rw [if_neg (by simp)]
  rw [key]; rfl
theorem head_eq {r : Nat} (h : r ≤ 6) : mz_head (r : Int) = some (hdI (r : Int)) := by
  match r, h with
  | 0, _ => rfl
  | 1, _ => rfl
  | 2, _ => rfl
  | 3, _ => rfl
  | 4, _ => rfl
  | 5, _ => rfl
  | 6, _ => rfl
  | n + 7, h => omega
theorem write_ok {y : Image} (h : Ok y) : mz_Write y = some (FB y (ents y), 0) := by
  have h1 := h.bl; have h2 := h.rl; have h3 := h.m0; have h4 := h.m1
  have hh := hd_in (r := (y.Relocs.length : Int)) (by omega) (by omega)
  have hc1 := wfI_u16.1 h.cs; have hc2 := wfI_u16.1 h.ip; have hc3 := wfI_u16.1 h.ss; have hc4 := wfI_u16.1 h.sp
  unfold mz_Write
  rw [may_ok h, Option.bind_some, if_neg (by simp), head_eq h2, Option.bind_some]
  have el : ([(IntKind.wrap .u16 (Int.tmod (IntKind.wrap .i64 (hdI (y.Relocs.length : Int) + (y.Bytes.length : Int))) 512)), (IntKind.wrap .u16 (IntKind.wrap .i64 (Int.tdiv (IntKind.wrap .i64 ((IntKind.wrap .i64 ((IntKind.wrap .i64 (hdI (y.Relocs.length : Int) + (y.Bytes.length : Int))) + 512)) - 1)) 512))), (IntKind.wrap .u16 (y.Relocs.length : Int)), (IntKind.wrap .u16 (IntKind.wrap .i64 (Int.tdiv (hdI (y.Relocs.length : Int)) 16))), (IntKind.wrap .u16 y.Min), 65535, y.SS, y.SP, 0, y.IP, y.CS, 28, 0] : List Int) = WL y := by
    unfold WL all_
    rw [wrap64 (n := hdI (y.Relocs.length : Int) + (y.Bytes.length : Int)) (by omega) (by omega), Int.tmod_eq_emod_of_nonneg (by omega), wrap64 (n := hdI (y.Relocs.length : Int) + (y.Bytes.length : Int) + 512) (by omega) (by omega),
      wrap64 (n := hdI (y.Relocs.length : Int) + (y.Bytes.length : Int) + 512 - 1) (by omega) (by omega), Int.tdiv_eq_ediv_of_nonneg (by omega), Int.tdiv_eq_ediv_of_nonneg (by omega),
      wrap64 (n := _ / 512) (by omega) (by omega), wrap64 (n := _ / 16) (by omega) (by omega), wrapu16 (n := _ % 512) (by omega) (by omega), wrapu16 (n := _ / 512) (by omega) (by omega), wrapu16 (n := (y.Relocs.length : Int)) (by omega) (by omega), wrapu16 (n := _ / 16) (by omega) (by omega), wrapu16 (n := y.Min) (by omega) (by omega)]
    have : hdI (y.Relocs.length : Int) + (y.Bytes.length : Int) + 512 - 1 = hdI (y.Relocs.length : Int) + (y.Bytes.length : Int) + 511 := by omega
    rw [this]
  rw [el]
  have l1 : loopO (fun x : ((List Int) × Int) => mz_Write_l22 y x.1 (hdI (y.Relocs.length : Int)) (WL y) ((WL y).length : Int) x.2) (([77, 90] : List Int), 0) = some (HB y) := by
    refine pre_loop (WL y) (fun xs => ([77, 90] ++ tw2 xs, (xs.length : Int))) (fun _ => True) _ (fun xs v ys e _ => .inl ⟨?_, trivial⟩) (fun _ => ?_) trivial
    · have hl := len_lt e
      have hw : (WL y).length = 13 := rfl
      have hv := WL_in h v (by rw [e]; simp)
      show mz_Write_l22 y ([77, 90] ++ tw2 xs) (hdI (y.Relocs.length : Int)) (WL y) ((WL y).length : Int) (xs.length : Int) = _
      unfold mz_Write_l22
      have t2 := tw2_length xs
      rw [if_pos (by simpa using hl), idx_mid e, Option.bind_some, index_Two_spec hv.1 hv.2, Option.bind_some, grow_eq (by simp only [List.length_append, List.length_cons, List.length_nil, le_length]; omega) (by simp only [List.length_append, List.length_cons, List.length_nil, le_length]; omega), Option.bind_some, len_snoc xs v (by omega)]
      simp only [tw2, List.flatMap_append, List.flatMap_cons, List.flatMap_nil, List.append_nil, List.append_assoc]
    · show mz_Write_l22 y ([77, 90] ++ tw2 (WL y)) (hdI (y.Relocs.length : Int)) (WL y) ((WL y).length : Int) ((WL y).length : Int) = _
      unfold mz_Write_l22
      rw [if_neg (by simp)]; rfl
  rw [l1, Option.bind_some]
  have l2 : loopO (fun x : ((List Int) × Int) => mz_Write_l39 y x.1 (hdI (y.Relocs.length : Int)) y.Relocs (y.Relocs.length : Int) x.2) (HB y, 0) = some (HB y ++ EB (ents y)) := by
    have e0 : HB y = HB y ++ EB (([] : List Int).map fun x => (x % 16, x / 16)) := by simp [EB]
    conv => lhs; rw [e0]
    refine pre_loop y.Relocs (fun xs => (HB y ++ EB (xs.map fun x => (x % 16, x / 16)), (xs.length : Int))) (fun _ => True) _ (fun xs v ys e _ => .inl ⟨?_, trivial⟩) (fun _ => ?_) trivial
    · have hl := len_lt e
      have hv := h.rr v (by rw [e]; simp)
      show mz_Write_l39 y (HB y ++ EB (xs.map fun x => (x % 16, x / 16))) (hdI (y.Relocs.length : Int)) y.Relocs (y.Relocs.length : Int) (xs.length : Int) = _
      unfold mz_Write_l39
      have t2 := EB_length (xs.map fun x => (x % 16, x / 16)); have t3 := HB_length y
      rw [List.length_map] at t2
      have hn : bits_Normal (IntKind.wrap .u32 v) = some (v / 16, v % 16) := by
        unfold bits_Normal
        have e1 : bitsOp .and .u32 (IntKind.wrap .u32 v) 1048575 = v := by
          rw [wrapu32 hv.1 (by omega)]
          have : bitsOp .and .u32 v 1048575 = v % 1048576 := and_u32 20 (by omega) rfl hv.1 (by omega)
          rw [this]; omega
        have e2 : shrI .u32 v 4 = v / 16 := shr_eq (j := 4) (by decide)
        have e3 : bitsOp .and .u32 v 15 = v % 16 := and_u32 4 (by omega) rfl hv.1 (by omega)
        rw [e1, e2, e3, wrapu16 (n := v / 16) (by omega) (by omega), wrapu16 (n := v % 16) (by omega) (by omega)]
      rw [if_pos (by simpa using hl), idx_mid e, Option.bind_some, hn, Option.bind_some]
      simp only
      rw [index_Two_spec (w := v % 16) (by omega) (by omega), Option.bind_some, grow_eq (by simp only [List.length_append, le_length]; omega) (by simp only [List.length_append, le_length]; omega), Option.bind_some,
        index_Two_spec (w := v / 16) (by omega) (by omega), Option.bind_some, grow_eq (by simp only [List.length_append, le_length]; omega) (by simp only [List.length_append, le_length]; omega), Option.bind_some, len_snoc xs v (by omega)]
      simp only [EB, ent, List.map_append, List.map_cons, List.map_nil, List.flatMap_append, List.flatMap_cons, List.flatMap_nil, List.append_nil, List.append_assoc]
    · show mz_Write_l39 y (HB y ++ EB (y.Relocs.map fun x => (x % 16, x / 16))) (hdI (y.Relocs.length : Int)) y.Relocs (y.Relocs.length : Int) (y.Relocs.length : Int) = _
      unfold mz_Write_l39
      rw [if_neg (by simp)]; rfl
  rw [l2, Option.bind_some]
  have t2 := EB_length (ents y); have t3 := HB_length y
  have t4 : (ents y).length = y.Relocs.length := by unfold ents; rw [List.length_map]
  have hg : growZ 1 0 (HB y ++ EB (ents y)) (IntKind.wrap .i64 (hdI (y.Relocs.length : Int) - ((HB y ++ EB (ents y)).length : Int))) = some (HB y ++ EB (ents y) ++ PD y) := by
    have e1 : hdI (y.Relocs.length : Int) - ((HB y ++ EB (ents y)).length : Int) = hdI (y.Relocs.length : Int) - 28 - 4 * (y.Relocs.length : Int) := by rw [List.length_append]; omega
    rw [e1, wrap64 (by omega) (by omega)]
    unfold growZ
    rw [if_pos (by rw [List.length_append]; omega)]
    rfl
  have t5 : (PD y).length ≤ 100 := by unfold PD; rw [List.length_replicate]; omega
  rw [hg, Option.bind_some, grow_eq (by simp only [List.length_append]; omega) (by simp only [List.length_append]; omega), Option.bind_some]
  unfold FB
  simp only [List.append_assoc]
/-! ### what is read -/
theorem first_ok {y : Image} (h : Ok y) (T : List Int) : mz_first (HB y ++ T) = some (({ last := all_ y % 512, pages := (all_ y + 511) / 512, relocs := (y.Relocs.length : Int), paras := hdI (y.Relocs.length : Int) / 16, min := y.Min, ss := y.SS, sp := y.SP, ip := y.IP, cs_ := y.CS, table := 28 } : Header), 0) := by
  have t3 := HB_length y
  unfold mz_first
  have hi0 : idx (HB y ++ T) 0 = some 77 := rfl
  have hi1 : idx (HB y ++ T) 1 = some 90 := rfl
  have hc : cutL (HB y ++ T) 2 28 = some (tw2 (WL y)) := by
    have := cut_mid [77, 90] (tw2 (WL y)) T (lo := 2) (hi := 28) rfl (by rw [tw2_length]; rfl)
    unfold HB; rw [List.append_assoc]; exact this
  rw [if_neg (by rw [List.length_append]; simp; omega), hi0, Option.bind_some, if_neg (by decide), hi1, Option.bind_some, if_neg (by decide), hc, Option.bind_some, from_spec _ (by rw [tw2_length, show (WL y).length = 13 from rfl]; decide), Option.bind_some]
  have hw := WL_in h
  unfold WL at hw
  simp only [List.forall_mem_cons] at hw
  obtain ⟨w1, w2, w3, w4, w5, w6, w7, w8, w9, w10, w11, w12, w13, _⟩ := hw
  unfold WL tw2
  simp only [List.flatMap_cons, List.flatMap_nil]
  rw [word_le w1.1 w1.2, Option.bind_some, word_le w2.1 w2.2, Option.bind_some, word_le w3.1 w3.2, Option.bind_some, word_le w4.1 w4.2, Option.bind_some, word_le w5.1 w5.2, Option.bind_some, word_le w6.1 w6.2, Option.bind_some, word_le w7.1 w7.2, Option.bind_some, word_le w8.1 w8.2, Option.bind_some, word_le w9.1 w9.2, Option.bind_some, word_le w10.1 w10.2, Option.bind_some, word_le w11.1 w11.2, Option.bind_some, word_le w12.1 w12.2, Option.bind_some]
theorem size_ok {y : Image} (h : Ok y) (hd : Header) (h1 : hd.last = all_ y % 512) (h2 : hd.pages = (all_ y + 511) / 512) (h3 : hd.paras = hdI (y.Relocs.length : Int) / 16) : mz_size hd = some (all_ y, true) := by
  have b1 := h.bl; have b2 := h.rl
  have hh := hd_in (r := (y.Relocs.length : Int)) (by omega) (by omega)
  have ha : all_ y = hdI (y.Relocs.length : Int) + (y.Bytes.length : Int) := rfl
  generalize hdI (y.Relocs.length : Int) = H at hh h3 ha
  unfold mz_size
  rw [h1, h2, h3]
  generalize all_ y = A at ha
  rw [wrap64 (n := (A + 511) / 512) (by omega) (by omega), wrap64 (n := (A + 511) / 512 * 512) (by omega) (by omega), wrap64 (n := A % 512) (by omega) (by omega), wrap64 (n := A % 512 - 512) (by omega) (by omega), wrap64 (n := (A + 511) / 512 * 512 + (A % 512 - 512)) (by omega) (by omega), wrap64 (n := H / 16) (by omega) (by omega), wrap64 (n := H / 16 * 16) (by omega) (by omega)]
  by_cases c : A % 512 > 0
  · rw [if_pos (by simpa using c), if_pos (by simp; omega)]
    have : (A + 511) / 512 * 512 + (A % 512 - 512) = A := by omega
    rw [this]
    simp; omega
  · rw [if_neg (by simpa using c), if_pos (by simp; omega)]
    have : (A + 511) / 512 * 512 = A := by omega
    rw [this]
    simp; omega
def lin (p : Int × Int) : Int := p.2 * 16 + p.1
theorem linear_ok {s o : Int} (hs : 0 ≤ s ∧ s ≤ 65535) (ho : 0 ≤ o ∧ o ≤ 65535) (h : s * 16 + o < 1048576) : bits_Linear s o = some (s * 16 + o) := by
  unfold bits_Linear
  have e1 : shlI .u32 (IntKind.wrap .u32 s) 4 = s * 16 := by
    rw [wrapu32 hs.1 (by omega)]
    show IntKind.wrap .u32 (s * 16) = _
    exact wrapu32 (by omega) (by omega)
  rw [e1, wrapu32 (n := o) ho.1 (by omega), wrapu32 (n := s * 16 + o) (by omega) (by omega)]
  have : bitsOp .and .u32 (s * 16 + o) 1048575 = (s * 16 + o) % 1048576 := and_u32 20 (by omega) rfl (by omega) (by omega)
  rw [this]; congr 1; omega
theorem sites_ok {y : Image} (h : Ok y) (E : List (Int × Int)) (he : (E.map lin).Perm y.Relocs) (hE : ∀ p ∈ E, (0 ≤ p.1 ∧ p.1 ≤ 65535) ∧ 0 ≤ p.2 ∧ p.2 ≤ 65535) (Z : List Int) (hd : Header) (h1 : hd.relocs = (y.Relocs.length : Int)) (h2 : hd.paras = hdI (y.Relocs.length : Int) / 16) (h3 : hd.table = 28) :
    mz_sites (HB y ++ (EB E ++ Z)) hd (y.Bytes.length : Int) = some (y.Relocs, 0) := by
  have b1 := h.bl; have b2 := h.rl
  have hh := hd_in (r := (y.Relocs.length : Int)) (by omega) (by omega)
  have t1 := HB_length y; have t2 := EB_length E
  have hl : E.length = y.Relocs.length := by have := he.length_eq; rwa [List.length_map] at this
  unfold mz_sites
  rw [h1, h2, h3, wrap64 (n := (28 : Int)) (by omega) (by omega), wrap64 (n := (y.Relocs.length : Int)) (by omega) (by omega), wrap64 (n := 4 * (y.Relocs.length : Int)) (by omega) (by omega), wrap64 (n := 28 + 4 * (y.Relocs.length : Int)) (by omega) (by omega), wrap64 (n := hdI (y.Relocs.length : Int) / 16) (by omega) (by omega), wrap64 (n := hdI (y.Relocs.length : Int) / 16 * 16) (by omega) (by omega)]
  rw [if_neg (by simp; omega), if_neg (by simp only [List.length_append, decide_eq_true_eq]; omega), if_neg (by simp; omega)]
  have l1 : loopO (fun x : ((List Int) × Int) => mz_sites_l26 x.1 (HB y ++ (EB E ++ Z)) (y.Bytes.length : Int) 28 (y.Relocs.length : Int) x.2) (([] : List Int), 0) = some (E.map lin) := by
    refine pre_loop E (fun xs => (xs.map lin, (xs.length : Int))) (fun _ => True) _ (fun xs p ys e _ => .inl ⟨?_, trivial⟩) (fun _ => ?_) trivial
    · have hlt := len_lt e
      have hp := hE p (by rw [e]; simp)
      have hlp : lin p ∈ y.Relocs := he.mem_iff.1 (List.mem_map.2 ⟨p, by rw [e]; simp, rfl⟩)
      have hr := h.rr _ hlp
      have t4 := EB_length xs
      show mz_sites_l26 (xs.map lin) (HB y ++ (EB E ++ Z)) (y.Bytes.length : Int) 28 (y.Relocs.length : Int) (xs.length : Int) = _
      unfold mz_sites_l26
      have hc : cutL (HB y ++ (EB E ++ Z)) (28 + 4 * (xs.length : Int)) (28 + 4 * (xs.length : Int) + 4) = some (ent p) := by
        have e2 : HB y ++ (EB E ++ Z) = (HB y ++ EB xs) ++ (ent p ++ (EB ys ++ Z)) := by
          rw [e]; simp only [EB, List.flatMap_append, List.flatMap_cons, List.append_assoc]
        rw [e2]
        refine cut_mid _ _ _ ?_ ?_
        · rw [List.length_append]; omega
        · simp only [ent, List.length_append, le_length]; omega
      rw [if_pos (by simp; omega), wrap64 (n := 4 * (xs.length : Int)) (by omega) (by omega), wrap64 (n := 28 + 4 * (xs.length : Int)) (by omega) (by omega), wrap64 (n := 28 + 4 * (xs.length : Int) + 4) (by omega) (by omega), hc, Option.bind_some, from_spec _ (by simp [ent, le_length]), Option.bind_some]
      unfold ent
      rw [word_le hp.1.1 hp.1.2, Option.bind_some]
      simp only
      have hw2 := word_le hp.2.1 hp.2.2 []
      rw [List.append_nil] at hw2
      rw [hw2, Option.bind_some]
      simp only
      unfold lin at hr
      rw [linear_ok hp.2 hp.1 (by omega), Option.bind_some, wrap64 (n := p.2 * 16 + p.1) (by omega) (by omega), grow_eq (by simp only [List.length_map, List.length_cons, List.length_nil]; omega) (by simp only [List.length_map, List.length_cons, List.length_nil]; omega), Option.bind_some, len_snoc xs p (by omega), List.map_append]
      rfl
    · show mz_sites_l26 (E.map lin) (HB y ++ (EB E ++ Z)) (y.Bytes.length : Int) 28 (y.Relocs.length : Int) (E.length : Int) = _
      unfold mz_sites_l26
      rw [if_neg (by simp; omega)]
  rw [l1, Option.bind_some, sort_perm (R := y.Relocs) (by rw [List.length_map]; omega) he (h.rp.imp (fun h => by omega)), Option.bind_some]
  have l2 : loopO (fun x : Int => mz_sites_l49 y.Relocs (y.Bytes.length : Int) y.Relocs (y.Relocs.length : Int) x) 0 = some (.inr ()) := by
    refine pre_loop y.Relocs (fun xs => (xs.length : Int)) (fun _ => True) _ (fun xs v ys e _ => .inl ⟨?_, trivial⟩) (fun _ => ?_) trivial
    · have hl := len_lt e
      have hv := h.rr v (by rw [e]; simp)
      show mz_sites_l49 y.Relocs (y.Bytes.length : Int) y.Relocs (y.Relocs.length : Int) (xs.length : Int) = _
      unfold mz_sites_l49
      rw [if_pos (by simpa using hl), idx_mid e, Option.bind_some, wrap64 (n := (y.Bytes.length : Int) - 2) (by omega) (by omega), if_neg (by simp; omega), len_snoc xs v (by omega)]
      by_cases c : (xs.length : Int) > 0
      · obtain ⟨u, hu, zs, hz⟩ := prev_in e (by omega)
        have := pair_in h.rp hz
        have hu2 := h.rr u (by rw [hz]; simp)
        rw [if_pos (by simpa using c), wrap64 (n := (xs.length : Int) - 1) (by omega) (by omega), hu, Option.bind_some, wrap64 (n := v - u) (by omega) (by omega), if_neg (by simp; omega)]
      · rw [if_neg (by simpa using c)]
    · show mz_sites_l49 y.Relocs (y.Bytes.length : Int) y.Relocs (y.Relocs.length : Int) (y.Relocs.length : Int) = _
      unfold mz_sites_l49
      rw [if_neg (by simp)]
  rw [l2]; rfl
theorem read_ok {y : Image} (h : Ok y) (E : List (Int × Int)) (he : (E.map lin).Perm y.Relocs) (hE : ∀ p ∈ E, (0 ≤ p.1 ∧ p.1 ≤ 65535) ∧ 0 ≤ p.2 ∧ p.2 ≤ 65535) (Z : List Int) (hZ : Z.length ≤ 1000) : mz_Read (FB y E ++ Z) = some (y, 0) := by
  have b1 := h.bl; have b2 := h.rl
  have hh := hd_in (r := (y.Relocs.length : Int)) (by omega) (by omega)
  have t1 := HB_length y; have t2 := EB_length E
  have hl : E.length = y.Relocs.length := by have := he.length_eq; rwa [List.length_map] at this
  have hF := FB_length h E hl
  have ha : all_ y = hdI (y.Relocs.length : Int) + (y.Bytes.length : Int) := rfl
  have eF : FB y E ++ Z = HB y ++ (EB E ++ (PD y ++ (y.Bytes ++ Z))) := by unfold FB; simp only [List.append_assoc]
  have t5 : ((PD y).length : Int) = hdI (y.Relocs.length : Int) - 28 - 4 * (y.Relocs.length : Int) := by unfold PD; rw [List.length_replicate]; omega
  unfold mz_Read
  rw [eF, first_ok h, Option.bind_some]
  simp only
  rw [if_neg (by simp), size_ok h _ rfl rfl rfl, Option.bind_some]
  simp only
  have hc1 := wfI_u16.1 h.cs; have hc2 := wfI_u16.1 h.ip; have hc3 := wfI_u16.1 h.ss; have hc4 := wfI_u16.1 h.sp
  have hm0 := h.m0; have hm1 := h.m1
  rw [wrap64 (n := hdI (y.Relocs.length : Int) / 16) (by omega) (by omega), wrap64 (n := hdI (y.Relocs.length : Int) / 16 * 16) (by omega) (by omega), show hdI (y.Relocs.length : Int) / 16 * 16 = hdI (y.Relocs.length : Int) from by omega,
    if_neg (by simp), if_neg (by simp; omega), if_neg (by rw [← eF, List.length_append]; simp; omega), wrap64 (n := all_ y - hdI (y.Relocs.length : Int)) (by omega) (by omega), show all_ y - hdI (y.Relocs.length : Int) = (y.Bytes.length : Int) from by omega,
    sites_ok h E he hE _ _ rfl rfl rfl, Option.bind_some]
  simp only
  have hc : cutL (HB y ++ (EB E ++ (PD y ++ (y.Bytes ++ Z)))) (hdI (y.Relocs.length : Int)) (all_ y) = some y.Bytes := by
    have e2 : HB y ++ (EB E ++ (PD y ++ (y.Bytes ++ Z))) = (HB y ++ (EB E ++ PD y)) ++ (y.Bytes ++ Z) := by simp only [List.append_assoc]
    rw [e2]
    refine cut_mid _ _ _ ?_ ?_
    · simp only [List.length_append]; omega
    · omega
  rw [if_neg (by simp), hc, Option.bind_some]
  have hcl : slices_Clone_Lbyte y.Bytes = some y.Bytes := by
    unfold slices_Clone_Lbyte; rw [grow_eq (by simp; omega) (by simp; omega)]; rfl
  rw [hcl, Option.bind_some, wrap64 (n := y.Min) (by omega) (by omega)]
  have : ({ Bytes := y.Bytes, Relocs := y.Relocs, CS := y.CS, IP := y.IP, SS := y.SS, SP := y.SP, Min := y.Min } : Image) = y := rfl
  rw [this, may_ok h]; rfl
theorem read_short {y : Image} (h : Ok y) (T : List Int) (hT : ((HB y ++ T).length : Int) < all_ y) : ∃ x, mz_Read (HB y ++ T) = some (x, 2) := by
  have b1 := h.bl; have b2 := h.rl
  have hh := hd_in (r := (y.Relocs.length : Int)) (by omega) (by omega)
  unfold mz_Read
  rw [first_ok h, Option.bind_some]
  simp only
  rw [if_neg (by simp), size_ok h _ rfl rfl rfl, Option.bind_some]
  simp only
  rw [wrap64 (n := hdI (y.Relocs.length : Int) / 16) (by omega) (by omega), wrap64 (n := hdI (y.Relocs.length : Int) / 16 * 16) (by omega) (by omega), if_neg (by simp), if_neg (by simp; omega), if_pos (by simpa using hT)]
  exact ⟨_, rfl⟩
theorem same_ok (y : Image) (h : Ok y) : hansomref44_Same y y = some true := by
  have b2 := h.rl
  unfold hansomref44_Same
  simp only [bne_self_eq_false, Bool.false_eq_true, if_false]
  have key : loopO (fun x : Int => hansomref44_Same_l14 y y x) 0 = some (.inr ()) := by
    refine pre_loop y.Relocs (fun xs => (xs.length : Int)) (fun _ => True) _ (fun xs v ys e _ => .inl ⟨?_, trivial⟩) (fun _ => ?_) trivial
    · have hl := len_lt e
      show hansomref44_Same_l14 y y (xs.length : Int) = _
      unfold hansomref44_Same_l14
      rw [if_pos (by simpa using hl), idx_mid e, Option.bind_some, Option.bind_some, if_neg (by simp), len_snoc xs v (by omega)]
    · show hansomref44_Same_l14 y y (y.Relocs.length : Int) = _
      unfold hansomref44_Same_l14
      rw [if_neg (by simp)]
  rw [key]; rfl
theorem ents_perm (y : Image) : ((ents y).map lin).Perm y.Relocs := by
  have : (ents y).map lin = y.Relocs := by
    unfold ents
    rw [List.map_map]
    have : (lin ∘ fun x : Int => (x % 16, x / 16)) = id := by
      funext x
      simp only [Function.comp, lin, id]; omega
    rw [this, List.map_id]
  rw [this]
theorem ents_in {y : Image} (h : Ok y) : ∀ p ∈ ents y, (0 ≤ p.1 ∧ p.1 ≤ 65535) ∧ 0 ≤ p.2 ∧ p.2 ≤ 65535 := by
  intro p hp
  obtain ⟨x, hx, rfl⟩ := List.mem_map.1 hp
  have := h.rr x hx; have := h.bl
  simp only; omega

end Go.Es.Mzb
