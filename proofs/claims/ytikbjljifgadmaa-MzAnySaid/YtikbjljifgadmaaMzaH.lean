/- What the functions answer, in plain Lean. No condition. -/
import Derived.Test.YtikbjljifgadmaaMzaP
import Derived.KernelRfl
set_option linter.unusedVariables false
set_option linter.unusedSimpArgs false
set_option maxHeartbeats 4000000
set_option maxRecDepth 100000
namespace Go.Es.Mza
theorem cut_min {α : Type} (l : List α) (k : Nat) : cutL l 0 (mnI (l.length : Int) (k : Int)) = some (l.take k) := by
  rw [mnI_eq, cutL_eq (by omega) (by omega) (by omega)]
  have : (min (l.length : Int) (k : Int)).toNat = min l.length k := by omega
  simp only [Int.toNat_zero, List.drop_zero, Nat.sub_zero, this]
  congr 1
  by_cases h : k ≤ l.length
  · rw [Nat.min_eq_right h]
  · rw [Nat.min_eq_left (by omega), List.take_of_length_le (by omega), List.take_of_length_le (by omega)]
theorem cut_to {α : Type} (l : List α) {k : Nat} (h : k ≤ l.length) : cutL l 0 (k : Int) = some (l.take k) := by
  rw [cutL_eq (by omega) (by omega) (by omega)]; simp
theorem b2s_s2b (s : List UInt8) : b2s (s2b s) = s := by
  simp only [b2s, s2b, List.map_map]
  conv => rhs; rw [← List.map_id s]
  apply List.map_congr_left
  intro c _
  simp
theorem s2b_b2s {l : List Int} (h : ∀ c ∈ l, wfI .u8 c) : s2b (b2s l) = l := by
  simp only [b2s, s2b, List.map_map]
  conv => rhs; rw [← List.map_id l]
  apply List.map_congr_left
  intro c hc
  obtain ⟨h0, h1⟩ := wfI_u8.1 (h c hc)
  simp only [Function.comp, id, UInt8.toNat_ofNat']
  omega
theorem b2s_append (a b : List Int) : b2s (a ++ b) = b2s a ++ b2s b := by simp [b2s]
theorem b2s_cons (a : Int) (b : List Int) : b2s (a :: b) = UInt8.ofNat a.toNat :: b2s b := rfl
theorem s2b_append (a b : List UInt8) : s2b (a ++ b) = s2b a ++ s2b b := by simp [s2b]
theorem s2b_length (s : List UInt8) : (s2b s).length = s.length := by simp [s2b]
theorem b2s_length (s : List Int) : (b2s s).length = s.length := by simp [b2s]
theorem s2b_take (s : List UInt8) (k : Nat) : s2b (s.take k) = (s2b s).take k := by simp [s2b, List.map_take]
theorem s2b_wf (s : List UInt8) : ∀ c ∈ s2b s, wfI .u8 c := by
  intro c hc
  simp only [s2b, List.mem_map] at hc
  obtain ⟨x, _, rfl⟩ := hc
  have := x.toNat_lt
  exact wfI_u8.2 ⟨by omega, by omega⟩

/-! ### sources -/
theorem from_spec (b : List Int) (h : b.length ≤ 2 ^ 40) : index_From b = some ⟨b, 0⟩ := by
  unfold index_From
  rw [grow_eq (by simp; omega) (by simp; omega)]; rfl
theorem take_ok (s : Source) {n : Int} (h0 : 0 ≤ n) (h1 : n ≤ (s.b.length : Int)) : index_Source_Take s n = some (s.b.take n.toNat, ⟨s.b.drop n.toNat, s.e⟩) := by
  unfold index_Source_Take
  have e1 : ¬ n < 0 := by omega
  have e2 : ¬ n > (s.b.length : Int) := by omega
  simp only [e1, e2, decide_false, Bool.false_eq_true, if_false]
  rw [cut3_eq (by omega) h0 (by omega) h1, cutL_eq h0 h1 (by omega)]
  simp only [Option.bind_some, Int.toNat_zero, List.drop_zero, Nat.sub_zero, Int.toNat_natCast]
  have hd : List.take (s.b.length - n.toNat) (List.drop n.toNat s.b) = List.drop n.toNat s.b := List.take_of_length_le (by rw [List.length_drop]; omega)
  rw [hd]
theorem take_short (b : List Int) {n : Int} (h : n < 0 ∨ (b.length : Int) < n) : index_Source_Take ⟨b, 0⟩ n = some ([], ⟨[], 2⟩) := by
  unfold index_Source_Take
  rcases h with h | h
  · simp [h, index_Source_Wrong]
  · by_cases h0 : n < 0
    · simp [h0, index_Source_Wrong]
    · simp [h0, h, index_Source_Wrong]
/-! ### names -/
/-- a name's bytes -/
def enc (s : List UInt8) : List Int := (s.length : Int) :: s2b s
theorem enc_length (s : List UInt8) : (enc s).length = s.length + 1 := by simp [enc, s2b]

/-! ### bytes -/
theorem wrap_u8' (n : Int) : IntKind.wrap .u8 n = n % 256 := by simp [IntKind.wrap, IntKind.bits, IntKind.signed]
/-- the low bytes of a number -/
def le : Int → Nat → List Int
  | _, 0 => []
  | n, k + 1 => n % 256 :: le (n / 256) k
theorem le_length (n : Int) (k : Nat) : (le n k).length = k := by
  induction k generalizing n with
  | zero => rfl
  | succ k ih => simp [le, ih]
theorem le_wf (n : Int) (k : Nat) : ∀ c ∈ le n k, wfI .u8 c := by
  induction k generalizing n with
  | zero => intro c hc; simp [le] at hc
  | succ k ih =>
    intro c hc
    simp only [le, List.mem_cons] at hc
    rcases hc with rfl | hc
    · exact wfI_u8.2 ⟨by omega, by omega⟩
    · exact ih _ c hc
theorem Bytes_spec {n : Int} {k : Nat} (h0 : 0 ≤ n) (h1 : n ≤ 18446744073709551615) (hk : k ≤ 1000) : hansomref18_Bytes n (k : Int) = some (b2s (le n k)) := by
  unfold hansomref18_Bytes
  rw [loop_to (f := fun x : Int × List UInt8 × Int => hansomref18_Bytes_l8 x.1 (k : Int) x.2.1 x.2.2) (fun x => x.2.1 ++ b2s (le x.1 (k - x.2.2.toNat)))
    (fun x => 0 ≤ x.1 ∧ x.1 ≤ 18446744073709551615 ∧ 0 ≤ x.2.2 ∧ x.2.2 ≤ k ∧ (x.2.1.length : Int) = x.2.2) (fun x => (k - x.2.2).toNat) (fun x hx => ?_) ⟨h0, h1, by simp, by simp, by simp⟩]
  · simp
  · obtain ⟨m, s, i⟩ := x
    obtain ⟨a0, a1, a2, a3, a4⟩ := hx
    simp only at a0 a1 a2 a3 a4 ⊢
    unfold hansomref18_Bytes_l8
    by_cases hi : i < (k : Int)
    · left
      rw [Int.tdiv_eq_ediv_of_nonneg a0, Int.tmod_eq_emod_of_nonneg a0, wrapu8 (n := m % 256) (by omega) (by omega), wrap64 (n := i + 1) (by omega) (by omega), wrap_u64', catS_eq (by simp [b2s]; omega)]
      simp only [hi, decide_true, if_true, Option.bind_some]
      have e : k - i.toNat = (k - (i + 1).toNat) + 1 := by omega
      refine ⟨_, rfl, ⟨by simp only; omega, by simp only; omega, by simp only; omega, by simp only; omega, by simp only [List.length_append, b2s_length, List.length_cons, List.length_nil]; omega⟩, by simp only; omega, ?_⟩
      simp only [e, le, b2s_cons, List.append_assoc]
      rw [show m / 256 % 18446744073709551616 = m / 256 by omega]
      rfl
    · right
      have e : k - i.toNat = 0 := by omega
      simp [hi, e, le, b2s]
theorem le_mod {k : Nat} {n : Int} (h : 0 ≤ n) : le (n % 65536) 2 = le n 2 := by
  simp only [le, List.cons.injEq, and_true]
  constructor <;> omega
theorem index_Two_spec {w : Int} (h0 : 0 ≤ w) (h1 : w ≤ 65535) : index_Two w = some (le w 2) := by
  unfold index_Two bits_Low bits_High
  have e : shrI .u16 w 8 = w / 256 := shr_eq (j := 8) (by decide)
  simp only [Option.bind_some, e, wrap_u8', le]
theorem or_u16 {x y : Int} (j : Nat) (a : Nat) (hx : x = ((2 ^ j * a : Nat) : Int)) (hb : 2 ^ j * a + 2 ^ j ≤ 2 ^ 16) (h0 : 0 ≤ y) (h1 : y < (2 ^ j : Nat)) : bitsOp .or .u16 y x = y + x := by
  have e : bitsOp .or .u16 y x = IntKind.wrap .u16 (((BitVec.ofInt 16 y ||| BitVec.ofInt 16 x).toNat : Nat) : Int) := rfl
  have e1 : (BitVec.ofInt 16 x).toNat = 2 ^ j * a := by rw [BitVec.toNat_ofInt]; omega
  have e2 : (BitVec.ofInt 16 y).toNat = y.toNat := by rw [BitVec.toNat_ofInt]; omega
  have h2 : y.toNat < 2 ^ j := by omega
  rw [e, BitVec.toNat_or, e1, e2, Nat.or_comm, ← Nat.two_pow_add_eq_or_of_lt h2, wrapu16 (by omega) (by omega)]
  omega
theorem bits_Word_spec {l h : Int} (l0 : 0 ≤ l) (l1 : l ≤ 255) (h0 : 0 ≤ h) (h1 : h ≤ 255) : bits_Word l h = some (l + h * 256) := by
  unfold bits_Word
  have e : shlI .u16 (IntKind.wrap .u16 h) 8 = h * 256 := by
    rw [wrapu16 (by omega) (by omega)]
    show IntKind.wrap .u16 (h * 256) = _
    exact wrapu16 (by omega) (by omega)
  rw [e, wrapu16 (n := l) (by omega) (by omega), or_u16 8 h.toNat (by omega) (by omega) l0 (by omega)]
theorem word_cons (c d : Int) (r : List Int) (e : Int) (c0 : wfI .u8 c) (d0 : wfI .u8 d) : index_Source_Word ⟨c :: d :: r, e⟩ = some (c + d * 256, ⟨r, e⟩) := by
  obtain ⟨c0, c1⟩ := wfI_u8.1 c0
  obtain ⟨d0, d1⟩ := wfI_u8.1 d0
  unfold index_Source_Word
  rw [take_ok _ (by omega) (by simp only [List.length_cons]; omega)]
  simp [idx, bits_Word_spec c0 c1 d0 d1]
theorem word_short (b : List Int) (h : b.length < 2) : index_Source_Word ⟨b, 0⟩ = some (0, ⟨[], 2⟩) := by
  unfold index_Source_Word
  rw [take_short _ (by omega)]
  simp
theorem word_end : index_Source_Word ⟨[], 2⟩ = some (0, ⟨[], 2⟩) := by
  unfold index_Source_Word index_Source_Take
  simp [index_Source_Wrong]
theorem word_le {w : Int} (h0 : 0 ≤ w) (h1 : w ≤ 65535) (r : List Int) : index_Source_Word ⟨le w 2 ++ r, 0⟩ = some (w, ⟨r, 0⟩) := by
  have := word_cons (w % 256) (w / 256 % 256) r 0 (le_wf w 2 _ (by simp [le])) (le_wf w 2 _ (by simp [le]))
  simp only [le, List.cons_append, List.nil_append, this, Option.some.injEq, Prod.mk.injEq, and_true]
  omega
def rdW : List Int → Option (Int × List Int)
  | c :: d :: r => some (c + d * 256, r)
  | _ => none
theorem word_any (b : List Int) (h : ∀ c ∈ b, wfI .u8 c) : index_Source_Word ⟨b, 0⟩ = some (match rdW b with | some (v, r) => (v, ⟨r, 0⟩) | none => (0, ⟨[], 2⟩)) := by
  match b, h with
  | [], _ => simp [rdW, word_short]
  | [c], _ => simp [rdW, word_short]
  | c :: d :: r, h => simp [rdW, word_cons c d r 0 (h c (by simp)) (h d (by simp))]
theorem rdW_len {b : List Int} {v : Int} {r : List Int} (h : rdW b = some (v, r)) : r.length + 2 = b.length ∧ ∀ c ∈ r, c ∈ b := by
  match b, h with
  | c :: d :: t, h => cases h; exact ⟨by simp, fun c hc => by simp [hc]⟩
theorem rdW_lo {b : List Int} {v : Int} {r : List Int} (hb : ∀ c ∈ b, wfI .u8 c) (h : rdW b = some (v, r)) : 0 ≤ v ∧ v ≤ 65535 := by
  match b, hb, h with
  | c :: d :: t, hb, h =>
    obtain ⟨c0, c1⟩ := wfI_u8.1 (hb c (by simp))
    obtain ⟨d0, d1⟩ := wfI_u8.1 (hb d (by simp))
    cases h; omega
/-! ### sorting of few numbers -/
theorem less_eq (x y : Int) : cmp_Less_int x y = some (decide (x < y)) := by
  unfold cmp_Less_int cmp_isNaN_int
  simp
theorem idx_app_mid {α : Type} (L : List α) (v : α) (r : List α) : idx (L ++ v :: r) (L.length : Int) = some v := by
  rw [idx_nat (by simp)]; simp
theorem set_app_mid {α : Type} (L : List α) (v u : α) (r : List α) : List.set (L ++ v :: r) L.length u = L ++ u :: r := by
  rw [List.set_append_right _ _ (by omega)]; simp
/-- an element goes down to its place -/
theorem ins_eq (data : List Int) (i : Int) (n : Nat) : ∀ (L G rest : List Int) (v : Int), L.length = n → L.length + G.length + rest.length ≤ 1000 → (L ++ G).Pairwise (· ≤ ·) → (∀ g ∈ G, v ≤ g) →
    ∃ S, loopO (fun x : ((List Int) × Int) => slices_insertionSortOrdered_int_l15 data x.1 0 (data.length : Int) i x.2) (L ++ v :: (G ++ rest), (L.length : Int)) = some (S ++ rest) ∧ S.Pairwise (· ≤ ·) ∧ S.Perm (L ++ v :: G) := by
  induction n with
  | zero =>
    intro L G rest v hl _ hs hg
    have : L = [] := List.length_eq_zero_iff.1 hl
    subst this
    refine ⟨v :: G, ?_, ?_, List.Perm.refl _⟩
    · rw [loopO_eq]
      simp only
      unfold slices_insertionSortOrdered_int_l15
      rw [if_neg (by simp)]; rfl
    · exact List.pairwise_cons.2 ⟨hg, by simpa using hs⟩
  | succ n ih =>
    intro L G rest v hl hb hs hg
    obtain ⟨L', u, rfl⟩ : ∃ L' u, L = L' ++ [u] := by
      refine ⟨L.dropLast, L.getLast (by intro h; subst h; cases hl), ?_⟩
      exact (List.dropLast_concat_getLast _).symm
    have hl' : L'.length = n := by simpa using hl
    simp only [List.length_append, List.length_cons, List.length_nil] at hb
    have e1 : ((L' ++ [u]).length : Int) = (L'.length : Int) + 1 := by simp
    have ew : IntKind.wrap .i64 ((L'.length : Int) + 1 - 1) = (L'.length : Int) := by rw [wrap64 (by omega) (by omega)]; omega
    have i1 : idx ((L' ++ [u]) ++ v :: (G ++ rest)) ((L'.length : Int) + 1) = some v := by rw [← e1]; exact idx_app_mid _ _ _
    have i2 : idx ((L' ++ [u]) ++ v :: (G ++ rest)) (L'.length : Int) = some u := by
      rw [List.append_assoc]; exact idx_app_mid _ _ _
    rw [loopO_eq]
    simp only
    rw [e1]
    have step : slices_insertionSortOrdered_int_l15 data ((L' ++ [u]) ++ v :: (G ++ rest)) 0 (data.length : Int) i ((L'.length : Int) + 1) =
        if v < u then some (.next (L' ++ v :: ((u :: G) ++ rest), (L'.length : Int))) else some (.out ((L' ++ [u]) ++ v :: (G ++ rest))) := by
      unfold slices_insertionSortOrdered_int_l15
      have t1 : ((L'.length : Int) + 1).toNat = (L' ++ [u]).length := by simp
      have s1 : List.set ((L' ++ [u]) ++ v :: (G ++ rest)) ((L'.length : Int) + 1).toNat u = (L' ++ [u]) ++ u :: (G ++ rest) := by rw [t1, set_app_mid]
      rw [if_pos (by simp), i1, ew, i2]
      simp only [Option.bind_some, less_eq]
      by_cases c : v < u
      · rw [if_pos (by simpa using c), if_pos c, s1]
        have i3 : idx ((L' ++ [u]) ++ u :: (G ++ rest)) (L'.length : Int) = some u := by rw [List.append_assoc]; exact idx_app_mid _ _ _
        have s2 : List.set ((L' ++ [u]) ++ u :: (G ++ rest)) (L'.length : Int).toNat v = L' ++ v :: ((u :: G) ++ rest) := by
          rw [List.append_assoc, Int.toNat_natCast]
          exact set_app_mid L' u v _
        rw [i3, Option.bind_some, s2]
      · rw [if_neg (by simpa using c), if_neg c]
    rw [step]
    obtain ⟨hs1, hs2, hs3⟩ := List.pairwise_append.1 hs
    obtain ⟨hs4, _, hs5⟩ := List.pairwise_append.1 hs1
    by_cases c : v < u
    · rw [if_pos c]
      simp only [Option.bind_some]
      obtain ⟨S, h1, h2, h3⟩ := ih L' (u :: G) rest v hl' (by simp only [List.length_cons]; omega) (by simpa using hs) (by
        intro g hgm
        rcases List.mem_cons.1 hgm with rfl | hgm
        · omega
        · exact hg g hgm)
      refine ⟨S, h1, h2, h3.trans ?_⟩
      rw [List.append_assoc]
      exact List.Perm.append_left _ (List.Perm.swap _ _ _)
    · rw [if_neg c]
      simp only [Option.bind_some]
      refine ⟨(L' ++ [u]) ++ v :: G, by simp, ?_, List.Perm.refl _⟩
      refine List.pairwise_append.2 ⟨hs1, List.pairwise_cons.2 ⟨hg, hs2⟩, ?_⟩
      intro a ha b hb
      have hau : a ≤ u := by
        rcases List.mem_append.1 ha with ha | ha
        · exact hs5 a ha u (by simp)
        · simp only [List.mem_singleton] at ha; omega
      rcases List.mem_cons.1 hb with rfl | hb
      · omega
      · exact hs3 a ha b hb
theorem insort_from (data : List Int) : ∀ (rest S : List Int), S.length + rest.length = data.length → data.length ≤ 1000 → S.Pairwise (· ≤ ·) →
    ∃ S', loopO (fun x : ((List Int) × Int) => slices_insertionSortOrdered_int_l3 data x.1 0 (data.length : Int) x.2) (S ++ rest, (S.length : Int)) = some S' ∧ S'.Pairwise (· ≤ ·) ∧ S'.Perm (S ++ rest) := by
  intro rest
  induction rest with
  | nil =>
    intro S hl _ hs
    simp only [List.length_nil] at hl
    refine ⟨S, ?_, hs, by simp⟩
    rw [loopO_eq]
    simp only
    unfold slices_insertionSortOrdered_int_l3
    rw [if_neg (by simp; omega), List.append_nil]; rfl
  | cons v rest ih =>
    intro S hl hm hs
    simp only [List.length_cons] at hl
    obtain ⟨S1, h1, h2, h3⟩ := ins_eq data (S.length : Int) S.length S [] rest v rfl (by simp; omega) (by simpa using hs) (by simp)
    simp only [List.nil_append] at h1
    have hl1 : S1.length = S.length + 1 := by have := h3.length_eq; simpa using this
    obtain ⟨S', h4, h5, h6⟩ := ih S1 (by omega) hm h2
    refine ⟨S', ?_, h5, h6.trans ?_⟩
    · rw [loopO_eq]
      simp only
      unfold slices_insertionSortOrdered_int_l3
      rw [if_pos (by simp; omega), h1]
      simp only [Option.bind_some]
      rw [wrap64 (n := (S.length : Int) + 1) (by omega) (by omega), show (S.length : Int) + 1 = (S1.length : Int) from by omega]
      exact h4
    · have := h3.append_right rest
      simpa using this
theorem insort (data : List Int) (hm : data.length ≤ 1000) : ∃ S, slices_insertionSortOrdered_int data 0 (data.length : Int) = some S ∧ S.Pairwise (· ≤ ·) ∧ S.Perm data := by
  unfold slices_insertionSortOrdered_int
  have fin : ∀ S : List Int, S.Perm data → (if S.length = data.length then some S else none) = some S := fun S h => if_pos h.length_eq
  cases data with
  | nil =>
    refine ⟨[], ?_, List.Pairwise.nil, List.Perm.refl _⟩
    rw [loopO_eq]
    simp only
    unfold slices_insertionSortOrdered_int_l3
    rw [if_neg (by decide)]; rfl
  | cons v rest =>
    obtain ⟨S, h1, h2, h3⟩ := insort_from (v :: rest) rest [v] (by simp; omega) hm (List.pairwise_singleton _ _)
    refine ⟨S, ?_, h2, by simpa using h3⟩
    rw [show IntKind.wrap .i64 (0 + 1) = (([v] : List Int).length : Int) from rfl]
    rw [show v :: rest = [v] ++ rest from rfl] at h1 ⊢
    rw [h1, Option.bind_some]
    exact fin S (by simpa using h3)
theorem sort_eq (data : List Int) (hm : data.length ≤ 12) : ∃ S, slices_Sort_Lint data = some S ∧ S.Pairwise (· ≤ ·) ∧ S.Perm data := by
  obtain ⟨S, h1, h2, h3⟩ := insort data (by omega)
  refine ⟨S, ?_, h2, h3⟩
  unfold slices_Sort_Lint
  have hlen : ∃ b, math_bits_Len (IntKind.wrap .u64 (data.length : Int)) = some b := by
    have : ∀ n : Nat, n < 13 → ∃ b, math_bits_Len (IntKind.wrap .u64 (n : Int)) = some b := by
      intro n hn
      match n, hn with
      | 0, _ => exact ⟨_, rfl⟩
      | 1, _ => exact ⟨_, rfl⟩
      | 2, _ => exact ⟨_, rfl⟩
      | 3, _ => exact ⟨_, rfl⟩
      | 4, _ => exact ⟨_, rfl⟩
      | 5, _ => exact ⟨_, rfl⟩
      | 6, _ => exact ⟨_, rfl⟩
      | 7, _ => exact ⟨_, rfl⟩
      | 8, _ => exact ⟨_, rfl⟩
      | 9, _ => exact ⟨_, rfl⟩
      | 10, _ => exact ⟨_, rfl⟩
      | 11, _ => exact ⟨_, rfl⟩
      | 12, _ => exact ⟨_, rfl⟩
      | n + 13, h => omega
    exact this data.length (by omega)
  obtain ⟨b, hb⟩ := hlen
  rw [hb, Option.bind_some]
  show ((slices_pdqsortOrdered_int_b (slices_pdqsortOrdered_int 63) data 0 (data.length : Int) b).bind _) = _
  unfold slices_pdqsortOrdered_int_b
  rw [loopO_eq]
  have : slices_pdqsortOrdered_int_l5 (slices_pdqsortOrdered_int 63) data data 0 (data.length : Int) b true true = some (.out S) := by
    unfold slices_pdqsortOrdered_int_l5
    rw [if_pos (by rw [wrap64 (by omega) (by omega)]; simp; omega), h1, Option.bind_some, if_pos h3.length_eq]
  rw [this]; rfl
/-- what is sorted is found again -/
theorem sort_perm {data R : List Int} (hm : data.length ≤ 12) (hp : data.Perm R) (hs : R.Pairwise (· ≤ ·)) : slices_Sort_Lint data = some R := by
  obtain ⟨S, h1, h2, h3⟩ := sort_eq data hm
  rw [h1, List.Perm.eq_of_pairwise (fun a b _ _ h h' => by omega) h2 hs (h3.trans hp)]
/-! loops over a list, prefix by prefix -/
theorem pre_loop {α τ β : Type} (R : List α) (T : List α → τ) (J : List α → Prop) {f : τ → Option (Lp τ β)} (o : β)
    (h1 : ∀ xs v ys, R = xs ++ v :: ys → J xs → (f (T xs) = some (.next (T (xs ++ [v]))) ∧ J (xs ++ [v])) ∨ f (T xs) = some (.out o))
    (h2 : J R → f (T R) = some (.out o)) (h0 : J []) : loopO f (T []) = some o := by
  have key : ∀ ys xs, R = xs ++ ys → J xs → loopO f (T xs) = some o := by
    intro ys
    induction ys with
    | nil =>
      intro xs h hJ
      rw [List.append_nil] at h; subst h
      rw [loopO_eq, h2 hJ]; rfl
    | cons v ys ih =>
      intro xs h hJ
      rcases h1 xs v ys h hJ with ⟨h3, h4⟩ | h3
      · rw [loopO_eq, h3]
        exact ih (xs ++ [v]) (by rw [h, List.append_assoc]; rfl) h4
      · rw [loopO_eq, h3]; rfl
  exact key R [] rfl h0
theorem idx_mid {α : Type} {R xs ys : List α} {v : α} (h : R = xs ++ v :: ys) : idx R (xs.length : Int) = some v := by
  subst h
  rw [idx_nat (by simp)]
  simp
theorem idx_mid_map {α β : Type} {R xs ys : List α} {v : α} (g : α → β) (h : R = xs ++ v :: ys) : idx (R.map g) (xs.length : Int) = some (g v) := by
  subst h
  rw [idx_nat (by simp)]
  simp
theorem len_lt {α : Type} {R xs ys : List α} {v : α} (h : R = xs ++ v :: ys) : xs.length < R.length := by subst h; simp
theorem len_snoc {α : Type} (xs : List α) (v : α) (h : (xs.length : Int) ≤ 1000) : IntKind.wrap .i64 ((xs.length : Int) + 1) = ((xs ++ [v]).length : Int) := by
  rw [wrap64 (by omega) (by omega)]; simp
theorem cut_mid {α : Type} (A M Z : List α) {lo hi : Int} (h1 : lo = (A.length : Int)) (h2 : hi = lo + (M.length : Int)) : cutL (A ++ (M ++ Z)) lo hi = some M := by
  subst h1; subst h2
  rw [cutL_eq (by omega) (by omega) (by simp only [List.length_append]; omega)]
  have : ((A.length : Int) + (M.length : Int)).toNat - (A.length : Int).toNat = M.length := by omega
  rw [this, Int.toNat_natCast, List.drop_left, List.take_left]
theorem and_mask' {x : Int} {m : Int} (j : Nat) (hj : j ≤ 62) (hm : m = ((2 ^ j - 1 : Nat) : Int)) : bitsOp .and .i64 x m = x % (2 ^ j : Nat) := by
  subst hm; exact and_mask x j hj
theorem and_u32 {x : Int} {m : Int} (j : Nat) (hj : j ≤ 31) (hm : m = ((2 ^ j - 1 : Nat) : Int)) (h0 : 0 ≤ x) (h1 : x < 4294967296) : bitsOp .and .u32 x m = x % (2 ^ j : Nat) := by
  subst hm
  have hp : 2 ^ j ≤ 2 ^ 31 := Nat.pow_le_pow_right (by omega) hj
  have hq : 0 < 2 ^ j := Nat.two_pow_pos j
  have e : bitsOp .and .u32 x ((2 ^ j - 1 : Nat) : Int) = IntKind.wrap .u32 (((BitVec.ofInt 32 x &&& BitVec.ofInt 32 ((2 ^ j - 1 : Nat) : Int)).toNat : Nat) : Int) := rfl
  have e1 : (BitVec.ofInt 32 ((2 ^ j - 1 : Nat) : Int)).toNat = 2 ^ j - 1 := by rw [BitVec.toNat_ofInt]; omega
  have e2 : (BitVec.ofInt 32 x).toNat = x.toNat := by rw [BitVec.toNat_ofInt]; omega
  rw [e, BitVec.toNat_and, e1, e2, Nat.and_two_pow_sub_one_eq_mod, IntKind.wrap_u32]
  have : x.toNat % 2 ^ j < 2 ^ j := Nat.mod_lt _ hq
  have h3 : ((x.toNat % 2 ^ j : Nat) : Int) = x % (2 ^ j : Nat) := by rw [Int.natCast_emod, Int.toNat_of_nonneg h0]
  rw [h3]
  rw [← h3]
  omega
theorem wrapu32 {n : Int} (h0 : 0 ≤ n) (h1 : n < 4294967296) : IntKind.wrap .u32 n = n := by rw [IntKind.wrap_u32]; omega
theorem wrapu64 {n : Int} (h0 : 0 ≤ n) (h1 : n < 18446744073709551616) : IntKind.wrap .u64 n = n := by rw [wrap_u64']; omega
/-- a small program that may be -/
structure Ok (y : Image) : Prop where
  b8 : ∀ c ∈ y.Bytes, wfI .u8 c
  bl : y.Bytes.length ≤ 700
  rl : y.Relocs.length ≤ 12
  rr : ∀ r ∈ y.Relocs, 0 ≤ r ∧ r + 2 ≤ (y.Bytes.length : Int)
  rp : y.Relocs.Pairwise (fun a b => a + 2 ≤ b)
  m0 : 0 ≤ y.Min
  m1 : y.Min ≤ 40960 - ((y.Bytes.length : Int) + 15) / 16
  cs : wfI .u16 y.CS
  ip : wfI .u16 y.IP
  ss : wfI .u16 y.SS
  sp : wfI .u16 y.SP
theorem near_ok (x : Image) (w : x.wf) : ∃ y, hansomref44_Near x = some y ∧ Ok y ∧ y.Relocs.length ≤ 6 ∧ y.Bytes.length ≤ 600 := by
  obtain ⟨⟨wl, wb⟩, ⟨wr, _⟩, w3, w4, w5, w6, w7⟩ := w
  unfold hansomref44_Near
  rw [mnI_eq, cutL_eq (by omega) (by omega) (by omega), Option.bind_some]
  have hB8 : ∀ c ∈ ((x.Bytes.drop (0 : Int).toNat).take ((min (x.Bytes.length : Int) 600).toNat - (0 : Int).toNat)), wfI .u8 c := fun c hc => wb c (List.mem_of_mem_drop (List.mem_of_mem_take hc))
  have hlen : ((x.Bytes.drop (0 : Int).toNat).take ((min (x.Bytes.length : Int) 600).toNat - (0 : Int).toNat)).length ≤ 600 := by
    rw [List.length_take]; omega
  generalize (x.Bytes.drop (0 : Int).toNat).take ((min (x.Bytes.length : Int) 600).toNat - (0 : Int).toNat) = B at hlen hB8
  have hg : grow 1 ([] : List Int) B = some B := by rw [grow_eq (by simp; omega) (by simp; omega)]; rfl
  rw [hg, Option.bind_some]
  obtain ⟨e, h1, h2⟩ := loop_rule (f := fun z : (Image × Int × Int) => hansomref44_Near_l14 x z.1 z.2.1 z.2.2)
    (fun z => (z.1.Bytes = B ∧ z.1.CS = x.CS ∧ z.1.IP = x.IP ∧ z.1.SS = x.SS ∧ z.1.SP = x.SP) ∧ 0 ≤ z.2.2 ∧ z.2.2 ≤ 6 ∧ (z.1.Relocs.length : Int) = z.2.2 ∧ 0 ≤ z.2.1 ∧ z.2.1 ≤ 600 ∧ (∀ r ∈ z.1.Relocs, 0 ≤ r ∧ r + 2 ≤ z.2.1 ∧ r + 2 ≤ (B.length : Int)) ∧ z.1.Relocs.Pairwise (fun a b => a + 2 ≤ b))
    (fun z => (7 - z.2.2).toNat)
    (fun y => (y.Bytes = B ∧ y.CS = x.CS ∧ y.IP = x.IP ∧ y.SS = x.SS ∧ y.SP = x.SP) ∧ y.Relocs.length ≤ 6 ∧ (∀ r ∈ y.Relocs, 0 ≤ r ∧ r + 2 ≤ (B.length : Int)) ∧ y.Relocs.Pairwise (fun a b => a + 2 ≤ b)) (by
      rintro ⟨y, a, i⟩ ⟨hb, h0, h6, hl, ha0, ha1, hm, hp⟩
      simp only at hb h0 h6 hl ha0 ha1 hm hp ⊢
      have fin : (y.Bytes = B ∧ y.CS = x.CS ∧ y.IP = x.IP ∧ y.SS = x.SS ∧ y.SP = x.SP) ∧ y.Relocs.length ≤ 6 ∧ (∀ r ∈ y.Relocs, 0 ≤ r ∧ r + 2 ≤ (B.length : Int)) ∧ y.Relocs.Pairwise (fun a b => a + 2 ≤ b) :=
        ⟨hb, by omega, fun r hr => ⟨(hm r hr).1, (hm r hr).2.2⟩, hp⟩
      unfold hansomref44_Near_l14
      by_cases c1 : i < (x.Relocs.length : Int)
      · by_cases c2 : i < 6
        · have hz := idx_eq (l := x.Relocs) h0 c1
          generalize x.Relocs[i.toNat]'(by omega) = z at hz
          have h64 : bitsOp .and .i64 z 63 = z % 64 := and_mask' 6 (by omega) rfl
          rw [if_pos (by simpa using c1), if_pos (by simpa using c2), hz, Option.bind_some, h64, wrap64 (n := a + z % 64) (by omega) (by omega), wrap64 (n := a + z % 64 + 2) (by omega) (by omega)]
          by_cases c3 : a + z % 64 + 2 > (y.Bytes.length : Int)
          · rw [if_pos (by simpa using c3)]
            exact .inr ⟨y, rfl, fin⟩
          · rw [hb.1] at c3
            rw [if_neg (by rw [hb.1]; simpa using c3), grow_eq (by simp only [List.length_cons, List.length_nil]; omega) (by simp only [List.length_cons, List.length_nil]; omega), Option.bind_some, wrap64 (n := i + 1) (by omega) (by omega)]
            refine .inl ⟨_, rfl, ⟨hb, by simp only; omega, by simp only; omega, by simp only [List.length_append, List.length_cons, List.length_nil]; omega, by simp only; omega, by simp only; omega, ?_, ?_⟩, by simp only; omega⟩
            · intro r hr
              simp only at hr ⊢
              rcases List.mem_append.1 hr with hr | hr
              · have := hm r hr; omega
              · simp only [List.mem_singleton] at hr; omega
            · simp only
              refine List.pairwise_append.2 ⟨hp, List.pairwise_singleton _ _, ?_⟩
              intro p hpm q hq
              simp only [List.mem_singleton] at hq
              have := hm p hpm; omega
        · rw [if_pos (by simpa using c1), if_neg (by simpa using c2)]
          exact .inr ⟨y, rfl, fin⟩
      · rw [if_neg (by simpa using c1)]
        exact .inr ⟨y, rfl, fin⟩) (x := (({ x with Bytes := B, Relocs := ([] : List Int) } : Image), 0, 0)) ⟨⟨rfl, rfl, rfl, rfl, rfl⟩, by simp, by simp, by simp, by simp, by simp, by simp, by simp⟩
  rw [h1, Option.bind_some]
  have h255 : bitsOp .and .i64 x.Min 255 = x.Min % 256 := and_mask' 8 (by omega) rfl
  obtain ⟨⟨hb, hcs, hip, hss, hsp⟩, h3, h4, h5⟩ := h2
  refine ⟨_, rfl, ⟨?_, ?_, by show _ ≤ 12; exact Nat.le_trans h3 (by omega), ?_, h5, ?_, ?_, ?_, ?_, ?_, ?_⟩, h3, ?_⟩
  · simp only [hb]; exact hB8
  · simp only [hb]; omega
  · simp only [hb]; exact h4
  · simp only [h255]; omega
  · simp only [h255, hb]; omega
  · simp only [hcs]; exact w3
  · simp only [hip]; exact w4
  · simp only [hss]; exact w5
  · simp only [hsp]; exact w6
  · simp only [hb]; exact hlen
/-! ### the file -/
def hdI (r : Int) : Int := (28 + 4 * r + 15) / 16 * 16
def all_ (y : Image) : Int := hdI (y.Relocs.length : Int) + (y.Bytes.length : Int)
def WL (y : Image) : List Int := [all_ y % 512, (all_ y + 511) / 512, (y.Relocs.length : Int), hdI (y.Relocs.length : Int) / 16, y.Min, 65535, y.SS, y.SP, 0, y.IP, y.CS, 28, 0]
def tw2 (l : List Int) : List Int := l.flatMap (le · 2)
def HB (y : Image) : List Int := [77, 90] ++ tw2 (WL y)
def ent (p : Int × Int) : List Int := le p.1 2 ++ le p.2 2
def EB (E : List (Int × Int)) : List Int := E.flatMap ent
def PD (y : Image) : List Int := List.replicate (hdI (y.Relocs.length : Int) - 28 - 4 * (y.Relocs.length : Int)).toNat 0
def ents (y : Image) : List (Int × Int) := y.Relocs.map fun x => (x % 16, x / 16)
def FB (y : Image) (E : List (Int × Int)) : List Int := HB y ++ (EB E ++ (PD y ++ y.Bytes))
theorem tw2_length (l : List Int) : (tw2 l).length = 2 * l.length := by
  unfold tw2
  induction l with
  | nil => rfl
  | cons a l ih => rw [List.flatMap_cons, List.length_append, ih, le_length, List.length_cons]; omega
theorem EB_length (l : List (Int × Int)) : (EB l).length = 4 * l.length := by
  unfold EB
  induction l with
  | nil => rfl
  | cons a l ih => rw [List.flatMap_cons, List.length_append, ih, List.length_cons]; simp only [ent, List.length_append, le_length]; omega
theorem HB_length (y : Image) : (HB y).length = 28 := by
  unfold HB; rw [List.length_append, tw2_length]; rfl
theorem hd_in {r : Int} (h0 : 0 ≤ r) (h1 : r ≤ 12) : 32 ≤ hdI r ∧ hdI r ≤ 80 ∧ 28 + 4 * r ≤ hdI r ∧ hdI r % 16 = 0 := by unfold hdI; omega
theorem WL_in {y : Image} (h : Ok y) : ∀ w ∈ WL y, 0 ≤ w ∧ w ≤ 65535 := by
  have hh := hd_in (r := (y.Relocs.length : Int)) (by omega) (by have := h.rl; omega)
  have h1 := h.bl; have h2 := h.rl; have h3 := h.m0; have h4 := h.m1
  have c1 := wfI_u16.1 h.cs; have c2 := wfI_u16.1 h.ip; have c3 := wfI_u16.1 h.ss; have c4 := wfI_u16.1 h.sp
  intro w hw
  unfold WL all_ at hw
  simp only [List.mem_cons, List.not_mem_nil, or_false] at hw
  rcases hw with rfl | rfl | rfl | rfl | rfl | rfl | rfl | rfl | rfl | rfl | rfl | rfl | rfl <;> omega
theorem tw2_wf (l : List Int) : ∀ c ∈ tw2 l, wfI .u8 c := by
  intro c hc
  obtain ⟨a, _, ha⟩ := List.mem_flatMap.1 hc
  exact le_wf _ _ _ ha
theorem HB_wf (y : Image) : ∀ c ∈ HB y, wfI .u8 c := by
  intro c hc
  rcases List.mem_append.1 hc with hc | hc
  · simp only [List.mem_cons, List.not_mem_nil, or_false] at hc
    rcases hc with rfl | rfl <;> exact wfI_u8.2 ⟨by omega, by omega⟩
  · exact tw2_wf _ c hc
theorem EB_wf (E : List (Int × Int)) : ∀ c ∈ EB E, wfI .u8 c := by
  intro c hc
  obtain ⟨p, _, ha⟩ := List.mem_flatMap.1 hc
  rcases List.mem_append.1 ha with h | h <;> exact le_wf _ _ _ h
theorem PD_wf (y : Image) : ∀ c ∈ PD y, wfI .u8 c := by
  intro c hc
  rw [(List.mem_replicate.1 hc).2]; exact wfI_u8.2 ⟨by omega, by omega⟩
theorem FB_wf {y : Image} (h : Ok y) (E : List (Int × Int)) : ∀ c ∈ FB y E, wfI .u8 c := by
  intro c hc
  unfold FB at hc
  rcases List.mem_append.1 hc with hc | hc
  · exact HB_wf y c hc
  · rcases List.mem_append.1 hc with hc | hc
    · exact EB_wf E c hc
    · rcases List.mem_append.1 hc with hc | hc
      · exact PD_wf y c hc
      · exact h.b8 c hc
theorem FB_length {y : Image} (h : Ok y) (E : List (Int × Int)) (he : E.length = y.Relocs.length) : ((FB y E).length : Int) = all_ y := by
  have hh := hd_in (r := (y.Relocs.length : Int)) (by omega) (by have := h.rl; omega)
  unfold FB PD all_
  simp only [List.length_append, HB_length, EB_length, he, List.length_replicate]
  omega
/-- the document's file -/
theorem ref_write {y : Image} (h : Ok y) : hansomref44_Write y = some (b2s (FB y (ents y))) := by
  have h2 := h.rl; have h3 := h.bl
  have hh := hd_in (r := (y.Relocs.length : Int)) (by omega) (by omega)
  unfold hansomref44_Write
  have eh : IntKind.wrap .i64 ((IntKind.wrap .i64 (Int.tdiv (IntKind.wrap .i64 ((IntKind.wrap .i64 (28 + (IntKind.wrap .i64 (4 * (y.Relocs.length : Int))))) + 15)) 16)) * 16) = hdI (y.Relocs.length : Int) := by
    unfold hdI
    rw [wrap64 (n := 4 * (y.Relocs.length : Int)) (by omega) (by omega), wrap64 (n := 28 + 4 * (y.Relocs.length : Int)) (by omega) (by omega), wrap64 (n := 28 + 4 * (y.Relocs.length : Int) + 15) (by omega) (by omega), Int.tdiv_eq_ediv_of_nonneg (by omega), wrap64 (n := _ / 16) (by omega) (by omega), wrap64 (by omega) (by omega)]
  rw [eh]
  have hc1 := wfI_u16.1 h.cs; have hc2 := wfI_u16.1 h.ip; have hc3 := wfI_u16.1 h.ss; have hc4 := wfI_u16.1 h.sp
  have el : ([(Int.tmod (IntKind.wrap .i64 (hdI (y.Relocs.length : Int) + (y.Bytes.length : Int))) 512), (IntKind.wrap .i64 (Int.tdiv (IntKind.wrap .i64 ((IntKind.wrap .i64 (hdI (y.Relocs.length : Int) + (y.Bytes.length : Int))) + 511)) 512)), (y.Relocs.length : Int), (IntKind.wrap .i64 (Int.tdiv (hdI (y.Relocs.length : Int)) 16)), y.Min, 65535, (IntKind.wrap .i64 y.SS), (IntKind.wrap .i64 y.SP), 0, (IntKind.wrap .i64 y.IP), (IntKind.wrap .i64 y.CS), 28, 0] : List Int) = WL y := by
    unfold WL all_
    rw [wrap64 (n := hdI (y.Relocs.length : Int) + (y.Bytes.length : Int)) (by omega) (by omega), Int.tmod_eq_emod_of_nonneg (by omega), wrap64 (n := hdI (y.Relocs.length : Int) + (y.Bytes.length : Int) + 511) (by omega) (by omega), Int.tdiv_eq_ediv_of_nonneg (by omega), Int.tdiv_eq_ediv_of_nonneg (by omega),
      wrap64 (n := _ / 512) (by omega) (by omega), wrap64 (n := _ / 16) (by omega) (by omega), wrap64 (n := y.SS) (by omega) (by omega), wrap64 (n := y.SP) (by omega) (by omega), wrap64 (n := y.IP) (by omega) (by omega), wrap64 (n := y.CS) (by omega) (by omega)]
  rw [el]
  have l1 : loopO (fun x : ((List UInt8) × Int) => hansomref44_Write_l14 y (hdI (y.Relocs.length : Int)) x.1 (WL y) x.2) (([77, 90] : List UInt8), 0) = some (b2s (HB y)) := by
    refine pre_loop (WL y) (fun xs => (b2s ([77, 90] ++ tw2 xs), (xs.length : Int))) (fun _ => True) _ (fun xs v ys e _ => .inl ⟨?_, trivial⟩) (fun _ => ?_) trivial
    · have hl := len_lt e
      have hw : (WL y).length = 13 := rfl
      have hv := WL_in h v (by rw [e]; simp)
      show hansomref44_Write_l14 y (hdI (y.Relocs.length : Int)) (b2s ([77, 90] ++ tw2 xs)) (WL y) (xs.length : Int) = _
      unfold hansomref44_Write_l14
      have hb : hansomref18_Bytes v 2 = some (b2s (le v 2)) := Bytes_spec (n := v) (k := 2) hv.1 (by omega) (by omega)
      have t2 := tw2_length xs
      rw [if_pos (by simpa using hl), idx_mid e, Option.bind_some, wrapu64 hv.1 (by omega), hb, Option.bind_some, catS_eq (by simp only [b2s_length, List.length_append, List.length_cons, List.length_nil, le_length]; omega), Option.bind_some, len_snoc xs v (by omega), ← b2s_append]
      simp only [tw2, List.flatMap_append, List.flatMap_cons, List.flatMap_nil, List.append_nil, List.append_assoc]
    · show hansomref44_Write_l14 y (hdI (y.Relocs.length : Int)) (b2s ([77, 90] ++ tw2 (WL y))) (WL y) ((WL y).length : Int) = _
      unfold hansomref44_Write_l14
      rw [if_neg (by simp)]; rfl
  rw [l1, Option.bind_some]
  have l2 : loopO (fun x : ((List UInt8) × Int) => hansomref44_Write_l29 y (hdI (y.Relocs.length : Int)) x.1 x.2) (b2s (HB y), 0) = some (b2s (HB y ++ EB (ents y))) := by
    have e0 : b2s (HB y) = b2s (HB y ++ EB (([] : List Int).map fun x => (x % 16, x / 16))) := by simp [EB]
    rw [e0]
    refine pre_loop y.Relocs (fun xs => (b2s (HB y ++ EB (xs.map fun x => (x % 16, x / 16))), (xs.length : Int))) (fun _ => True) _ (fun xs v ys e _ => .inl ⟨?_, trivial⟩) (fun _ => ?_) trivial
    · have hl := len_lt e
      have hv := h.rr v (by rw [e]; simp)
      show hansomref44_Write_l29 y (hdI (y.Relocs.length : Int)) (b2s (HB y ++ EB (xs.map fun x => (x % 16, x / 16)))) (xs.length : Int) = _
      unfold hansomref44_Write_l29
      have hb1 : hansomref18_Bytes (v % 16) 2 = some (b2s (le (v % 16) 2)) := Bytes_spec (n := v % 16) (k := 2) (by omega) (by omega) (by omega)
      have hb2 : hansomref18_Bytes (v / 16) 2 = some (b2s (le (v / 16) 2)) := Bytes_spec (n := v / 16) (k := 2) (by omega) (by omega) (by omega)
      have t2 := EB_length (xs.map fun x => (x % 16, x / 16)); have t3 := HB_length y
      rw [List.length_map] at t2
      rw [if_pos (by simpa using hl), idx_mid e, Option.bind_some, Int.tmod_eq_emod_of_nonneg hv.1, wrapu64 (n := v % 16) (by omega) (by omega), hb1, Option.bind_some, Option.bind_some, Int.tdiv_eq_ediv_of_nonneg hv.1, wrap64 (n := v / 16) (by omega) (by omega), wrapu64 (n := v / 16) (by omega) (by omega), hb2, Option.bind_some,
        catS_eq (by simp only [b2s_length, le_length]; omega), Option.bind_some, catS_eq (by simp only [b2s_length, List.length_append, le_length]; omega), Option.bind_some, len_snoc xs v (by omega), ← b2s_append, ← b2s_append]
      simp only [EB, ent, List.map_append, List.map_cons, List.map_nil, List.flatMap_append, List.flatMap_cons, List.flatMap_nil, List.append_nil, List.append_assoc]
    · show hansomref44_Write_l29 y (hdI (y.Relocs.length : Int)) (b2s (HB y ++ EB (y.Relocs.map fun x => (x % 16, x / 16)))) (y.Relocs.length : Int) = _
      unfold hansomref44_Write_l29
      rw [if_neg (by simp)]; rfl
  rw [l2, Option.bind_some]
  have l3 : loopO (fun x : (List UInt8) => hansomref44_Write_l42 y (hdI (y.Relocs.length : Int)) x) (b2s (HB y ++ EB (ents y))) = some (b2s (HB y ++ EB (ents y) ++ PD y)) := by
    have e0 : b2s (HB y ++ EB (ents y)) = b2s (HB y ++ EB (ents y) ++ ([] : List Int)) := by simp
    rw [e0]
    have t2 := EB_length (ents y); have t3 := HB_length y
    have t4 : (ents y).length = y.Relocs.length := by unfold ents; rw [List.length_map]
    have t5 : ((PD y).length : Int) = hdI (y.Relocs.length : Int) - 28 - 4 * (y.Relocs.length : Int) := by unfold PD; rw [List.length_replicate]; omega
    refine pre_loop (PD y) (fun xs => b2s (HB y ++ EB (ents y) ++ xs)) (fun _ => True) _ (fun xs v ys e _ => .inl ⟨?_, trivial⟩) (fun _ => ?_) trivial
    · have hl := len_lt e
      have hv : v = 0 := (List.mem_replicate.1 (show v ∈ PD y by rw [e]; simp)).2
      subst hv
      show hansomref44_Write_l42 y (hdI (y.Relocs.length : Int)) (b2s (HB y ++ EB (ents y) ++ xs)) = _
      unfold hansomref44_Write_l42
      rw [if_pos (by simp only [b2s_length, List.length_append, decide_eq_true_eq]; omega), catS_eq (by simp only [b2s_length, List.length_append, List.length_cons, List.length_nil]; omega), Option.bind_some, ← List.append_assoc, b2s_append (HB y ++ EB (ents y) ++ xs) [0]]
      rfl
    · show hansomref44_Write_l42 y (hdI (y.Relocs.length : Int)) (b2s (HB y ++ EB (ents y) ++ PD y)) = _
      unfold hansomref44_Write_l42
      rw [if_neg (by simp only [b2s_length, List.length_append, decide_eq_true_eq]; omega)]
  rw [l3, Option.bind_some]
  have t2 := EB_length (ents y); have t3 := HB_length y
  have t4 : (ents y).length = y.Relocs.length := by unfold ents; rw [List.length_map]
  have t5 : (PD y).length ≤ 100 := by unfold PD; rw [List.length_replicate]; omega
  rw [catS_eq (by simp only [b2s_length, List.length_append]; omega), Option.bind_some, ← b2s_append]
  unfold FB
  simp only [List.append_assoc]
theorem paras_in {k : Int} (h0 : 0 ≤ k) (h1 : k ≤ 700) : ∃ p, bits_Paras k = some p ∧ p = (k + 15) / 16 := by
  unfold bits_Paras
  by_cases c : k < 1
  · rw [if_pos (by simpa using c)]; exact ⟨0, rfl, by omega⟩
  · rw [if_neg (by simpa using c), wrap64 (n := k - 1) (by omega) (by omega), Int.tdiv_eq_ediv_of_nonneg (by omega), wrap64 (n := (k - 1) / 16) (by omega) (by omega), wrap64 (by omega) (by omega)]
    exact ⟨_, rfl, by omega⟩
theorem prev_in {α : Type} {R xs ys : List α} {v : α} (h : R = xs ++ v :: ys) (h0 : 0 < xs.length) : ∃ u, idx R ((xs.length : Int) - 1) = some u ∧ ∃ zs, R = zs ++ u :: v :: ys := by
  refine ⟨xs.getLast (by intro e; rw [e] at h0; simp at h0), ?_, xs.dropLast, ?_⟩
  · have e : R = xs.dropLast ++ xs.getLast (by intro e; rw [e] at h0; simp at h0) :: (v :: ys) := by
      have := List.dropLast_concat_getLast (l := xs) (by intro e; rw [e] at h0; simp at h0)
      rw [h]
      conv => lhs; rw [← this]
      simp
    have := idx_mid e
    rw [List.length_dropLast] at this
    rw [show (xs.length : Int) - 1 = ((xs.length - 1 : Nat) : Int) from by omega]
    exact this
  · have := List.dropLast_concat_getLast (l := xs) (by intro e; rw [e] at h0; simp at h0)
    rw [h]
    conv => lhs; rw [← this]
    simp
theorem pair_in {R zs ys : List Int} {u v : Int} (hp : R.Pairwise (fun a b => a + 2 ≤ b)) (h : R = zs ++ u :: v :: ys) : u + 2 ≤ v := by
  rw [h] at hp
  have := (List.pairwise_append.1 hp).2.1
  exact (List.pairwise_cons.1 this).1 v (by simp)
theorem may_ok {y : Image} (h : Ok y) : mz_May y = some true := by
  have h1 := h.bl; have h2 := h.rl; have h3 := h.m0; have h4 := h.m1
  unfold mz_May
  obtain ⟨p, hp, p0⟩ := paras_in (k := (y.Bytes.length : Int)) (by omega) (by omega)
  rw [if_neg (by simp; omega), if_neg (by simp; omega), hp, Option.bind_some, wrap64 (n := 40960 - p) (by omega) (by omega), if_neg (by simp; omega), if_neg (by simp; omega)]
  have key : loopO (fun x : Int => mz_May_l14 y y.Relocs (y.Relocs.length : Int) x) 0 = some (.inr ()) := by
    refine pre_loop y.Relocs (fun xs => (xs.length : Int)) (fun _ => True) _ (fun xs v ys e _ => .inl ⟨?_, trivial⟩) (fun _ => ?_) trivial
    · have hl := len_lt e
      have hv := h.rr v (by rw [e]; simp)
      show mz_May_l14 y y.Relocs (y.Relocs.length : Int) (xs.length : Int) = _
      unfold mz_May_l14
      rw [if_pos (by simpa using hl), idx_mid e, Option.bind_some, if_neg (by simp; omega), wrap64 (n := (y.Bytes.length : Int) - 2) (by omega) (by omega), if_neg (by simp; omega), len_snoc xs v (by omega)]
      by_cases c : (xs.length : Int) > 0
      · obtain ⟨u, hu, zs, hz⟩ := prev_in e (by omega)
        have := pair_in h.rp hz
        have hu2 := h.rr u (by rw [hz]; simp)
        rw [if_pos (by simpa using c), wrap64 (n := (xs.length : Int) - 1) (by omega) (by omega), hu, Option.bind_some, wrap64 (n := v - u) (by omega) (by omega), if_neg (by simp; omega)]
      · rw [if_neg (by simpa using c)]
    · show mz_May_l14 y y.Relocs (y.Relocs.length : Int) (y.Relocs.length : Int) = _
      unfold mz_May_l14
      rw [if_neg (by simp)]
  rw [key]; rfl
theorem head_eq {r : Nat} (h : r ≤ 12) : mz_head (r : Int) = some (hdI (r : Int)) := by
  match r, h with
  | 0, _ | 1, _ | 2, _ | 3, _ | 4, _ | 5, _ | 6, _ | 7, _ | 8, _ | 9, _ | 10, _ | 11, _ | 12, _ => rfl
  | n + 13, h => omega
theorem write_ok {y : Image} (h : Ok y) : mz_Write y = some (FB y (ents y), 0) := by
  have h1 := h.bl; have h2 := h.rl; have h3 := h.m0; have h4 := h.m1
  have hh := hd_in (r := (y.Relocs.length : Int)) (by omega) (by omega)
  have hc1 := wfI_u16.1 h.cs; have hc2 := wfI_u16.1 h.ip; have hc3 := wfI_u16.1 h.ss; have hc4 := wfI_u16.1 h.sp
  unfold mz_Write
  rw [may_ok h, Option.bind_some, if_neg (by simp), head_eq h2, Option.bind_some]
  have el : ([(IntKind.wrap .u16 (Int.tmod (IntKind.wrap .i64 (hdI (y.Relocs.length : Int) + (y.Bytes.length : Int))) 512)), (IntKind.wrap .u16 (IntKind.wrap .i64 (Int.tdiv (IntKind.wrap .i64 ((IntKind.wrap .i64 ((IntKind.wrap .i64 (hdI (y.Relocs.length : Int) + (y.Bytes.length : Int))) + 512)) - 1)) 512))), (IntKind.wrap .u16 (y.Relocs.length : Int)), (IntKind.wrap .u16 (IntKind.wrap .i64 (Int.tdiv (hdI (y.Relocs.length : Int)) 16))), (IntKind.wrap .u16 y.Min), 65535, y.SS, y.SP, 0, y.IP, y.CS, 28, 0] : List Int) = WL y := by
    unfold WL all_
    rw [wrap64 (n := hdI (y.Relocs.length : Int) + (y.Bytes.length : Int)) (by omega) (by omega), Int.tmod_eq_emod_of_nonneg (by omega), wrap64 (n := hdI (y.Relocs.length : Int) + (y.Bytes.length : Int) + 512) (by omega) (by omega),
      wrap64 (n := hdI (y.Relocs.length : Int) + (y.Bytes.length : Int) + 512 - 1) (by omega) (by omega), Int.tdiv_eq_ediv_of_nonneg (by omega), Int.tdiv_eq_ediv_of_nonneg (by omega),
      wrap64 (n := _ / 512) (by omega) (by omega), wrap64 (n := _ / 16) (by omega) (by omega), wrapu16 (n := _ % 512) (by omega) (by omega), wrapu16 (n := _ / 512) (by omega) (by omega), wrapu16 (n := (y.Relocs.length : Int)) (by omega) (by omega), wrapu16 (n := _ / 16) (by omega) (by omega), wrapu16 (n := y.Min) (by omega) (by omega)]
    have : hdI (y.Relocs.length : Int) + (y.Bytes.length : Int) + 512 - 1 = hdI (y.Relocs.length : Int) + (y.Bytes.length : Int) + 511 := by omega
    rw [this]
  rw [el]
  have l1 : loopO (fun x : ((List Int) × Int) => mz_Write_l22 y x.1 (hdI (y.Relocs.length : Int)) (WL y) ((WL y).length : Int) x.2) (([77, 90] : List Int), 0) = some (HB y) := by
    refine pre_loop (WL y) (fun xs => ([77, 90] ++ tw2 xs, (xs.length : Int))) (fun _ => True) _ (fun xs v ys e _ => .inl ⟨?_, trivial⟩) (fun _ => ?_) trivial
    · have hl := len_lt e
      have hw : (WL y).length = 13 := rfl
      have hv := WL_in h v (by rw [e]; simp)
      show mz_Write_l22 y ([77, 90] ++ tw2 xs) (hdI (y.Relocs.length : Int)) (WL y) ((WL y).length : Int) (xs.length : Int) = _
      unfold mz_Write_l22
      have t2 := tw2_length xs
      rw [if_pos (by simpa using hl), idx_mid e, Option.bind_some, index_Two_spec hv.1 hv.2, Option.bind_some, grow_eq (by simp only [List.length_append, List.length_cons, List.length_nil, le_length]; omega) (by simp only [List.length_append, List.length_cons, List.length_nil, le_length]; omega), Option.bind_some, len_snoc xs v (by omega)]
      simp only [tw2, List.flatMap_append, List.flatMap_cons, List.flatMap_nil, List.append_nil, List.append_assoc]
    · show mz_Write_l22 y ([77, 90] ++ tw2 (WL y)) (hdI (y.Relocs.length : Int)) (WL y) ((WL y).length : Int) ((WL y).length : Int) = _
      unfold mz_Write_l22
      rw [if_neg (by simp)]; rfl
  rw [l1, Option.bind_some]
  have l2 : loopO (fun x : ((List Int) × Int) => mz_Write_l39 y x.1 (hdI (y.Relocs.length : Int)) y.Relocs (y.Relocs.length : Int) x.2) (HB y, 0) = some (HB y ++ EB (ents y)) := by
    have e0 : HB y = HB y ++ EB (([] : List Int).map fun x => (x % 16, x / 16)) := by simp [EB]
    conv => lhs; rw [e0]
    refine pre_loop y.Relocs (fun xs => (HB y ++ EB (xs.map fun x => (x % 16, x / 16)), (xs.length : Int))) (fun _ => True) _ (fun xs v ys e _ => .inl ⟨?_, trivial⟩) (fun _ => ?_) trivial
    · have hl := len_lt e
      have hv := h.rr v (by rw [e]; simp)
      show mz_Write_l39 y (HB y ++ EB (xs.map fun x => (x % 16, x / 16))) (hdI (y.Relocs.length : Int)) y.Relocs (y.Relocs.length : Int) (xs.length : Int) = _
      unfold mz_Write_l39
      have t2 := EB_length (xs.map fun x => (x % 16, x / 16)); have t3 := HB_length y
      rw [List.length_map] at t2
      have hn : bits_Normal (IntKind.wrap .u32 v) = some (v / 16, v % 16) := by
        unfold bits_Normal
        have e1 : bitsOp .and .u32 (IntKind.wrap .u32 v) 1048575 = v := by
          rw [wrapu32 hv.1 (by omega)]
          have : bitsOp .and .u32 v 1048575 = v % 1048576 := and_u32 20 (by omega) rfl hv.1 (by omega)
          rw [this]; omega
        have e2 : shrI .u32 v 4 = v / 16 := shr_eq (j := 4) (by decide)
        have e3 : bitsOp .and .u32 v 15 = v % 16 := and_u32 4 (by omega) rfl hv.1 (by omega)
        rw [e1, e2, e3, wrapu16 (n := v / 16) (by omega) (by omega), wrapu16 (n := v % 16) (by omega) (by omega)]
      rw [if_pos (by simpa using hl), idx_mid e, Option.bind_some, hn, Option.bind_some]
      simp only
      rw [index_Two_spec (w := v % 16) (by omega) (by omega), Option.bind_some, grow_eq (by simp only [List.length_append, le_length]; omega) (by simp only [List.length_append, le_length]; omega), Option.bind_some,
        index_Two_spec (w := v / 16) (by omega) (by omega), Option.bind_some, grow_eq (by simp only [List.length_append, le_length]; omega) (by simp only [List.length_append, le_length]; omega), Option.bind_some, len_snoc xs v (by omega)]
      simp only [EB, ent, List.map_append, List.map_cons, List.map_nil, List.flatMap_append, List.flatMap_cons, List.flatMap_nil, List.append_nil, List.append_assoc]
    · show mz_Write_l39 y (HB y ++ EB (y.Relocs.map fun x => (x % 16, x / 16))) (hdI (y.Relocs.length : Int)) y.Relocs (y.Relocs.length : Int) (y.Relocs.length : Int) = _
      unfold mz_Write_l39
      rw [if_neg (by simp)]; rfl
  rw [l2, Option.bind_some]
  have t2 := EB_length (ents y); have t3 := HB_length y
  have t4 : (ents y).length = y.Relocs.length := by unfold ents; rw [List.length_map]
  have hg : growZ 1 0 (HB y ++ EB (ents y)) (IntKind.wrap .i64 (hdI (y.Relocs.length : Int) - ((HB y ++ EB (ents y)).length : Int))) = some (HB y ++ EB (ents y) ++ PD y) := by
    have e1 : hdI (y.Relocs.length : Int) - ((HB y ++ EB (ents y)).length : Int) = hdI (y.Relocs.length : Int) - 28 - 4 * (y.Relocs.length : Int) := by rw [List.length_append]; omega
    rw [e1, wrap64 (by omega) (by omega)]
    unfold growZ
    rw [if_pos (by rw [List.length_append]; omega)]
    rfl
  have t5 : (PD y).length ≤ 100 := by unfold PD; rw [List.length_replicate]; omega
  rw [hg, Option.bind_some, grow_eq (by simp only [List.length_append]; omega) (by simp only [List.length_append]; omega), Option.bind_some]
  unfold FB
  simp only [List.append_assoc]
/-! ### what is read -/
theorem first_ok {y : Image} (h : Ok y) (T : List Int) : mz_first (HB y ++ T) = some (({ last := all_ y % 512, pages := (all_ y + 511) / 512, relocs := (y.Relocs.length : Int), paras := hdI (y.Relocs.length : Int) / 16, min := y.Min, ss := y.SS, sp := y.SP, ip := y.IP, cs_ := y.CS, table := 28 } : Header), 0) := by
  have t3 := HB_length y
  unfold mz_first
  have hi0 : idx (HB y ++ T) 0 = some 77 := rfl
  have hi1 : idx (HB y ++ T) 1 = some 90 := rfl
  have hc : cutL (HB y ++ T) 2 28 = some (tw2 (WL y)) := by
    have := cut_mid [77, 90] (tw2 (WL y)) T (lo := 2) (hi := 28) rfl (by rw [tw2_length]; rfl)
    unfold HB; rw [List.append_assoc]; exact this
  rw [if_neg (by rw [List.length_append]; simp; omega), hi0, Option.bind_some, if_neg (by decide), hi1, Option.bind_some, if_neg (by decide), hc, Option.bind_some, from_spec _ (by rw [tw2_length, show (WL y).length = 13 from rfl]; decide), Option.bind_some]
  have hw := WL_in h
  unfold WL at hw
  simp only [List.forall_mem_cons] at hw
  obtain ⟨w1, w2, w3, w4, w5, w6, w7, w8, w9, w10, w11, w12, w13, _⟩ := hw
  unfold WL tw2
  simp only [List.flatMap_cons, List.flatMap_nil]
  rw [word_le w1.1 w1.2, Option.bind_some, word_le w2.1 w2.2, Option.bind_some, word_le w3.1 w3.2, Option.bind_some, word_le w4.1 w4.2, Option.bind_some, word_le w5.1 w5.2, Option.bind_some, word_le w6.1 w6.2, Option.bind_some, word_le w7.1 w7.2, Option.bind_some, word_le w8.1 w8.2, Option.bind_some, word_le w9.1 w9.2, Option.bind_some, word_le w10.1 w10.2, Option.bind_some, word_le w11.1 w11.2, Option.bind_some, word_le w12.1 w12.2, Option.bind_some]
theorem size_ok {y : Image} (h : Ok y) (hd : Header) (h1 : hd.last = all_ y % 512) (h2 : hd.pages = (all_ y + 511) / 512) (h3 : hd.paras = hdI (y.Relocs.length : Int) / 16) : mz_size hd = some (all_ y, true) := by
  have b1 := h.bl; have b2 := h.rl
  have hh := hd_in (r := (y.Relocs.length : Int)) (by omega) (by omega)
  have ha : all_ y = hdI (y.Relocs.length : Int) + (y.Bytes.length : Int) := rfl
  generalize hdI (y.Relocs.length : Int) = H at hh h3 ha
  unfold mz_size
  rw [h1, h2, h3]
  generalize all_ y = A at ha
  rw [wrap64 (n := (A + 511) / 512) (by omega) (by omega), wrap64 (n := (A + 511) / 512 * 512) (by omega) (by omega), wrap64 (n := A % 512) (by omega) (by omega), wrap64 (n := A % 512 - 512) (by omega) (by omega), wrap64 (n := (A + 511) / 512 * 512 + (A % 512 - 512)) (by omega) (by omega), wrap64 (n := H / 16) (by omega) (by omega), wrap64 (n := H / 16 * 16) (by omega) (by omega)]
  by_cases c : A % 512 > 0
  · rw [if_pos (by simpa using c), if_pos (by simp; omega)]
    have : (A + 511) / 512 * 512 + (A % 512 - 512) = A := by omega
    rw [this]
    simp; omega
  · rw [if_neg (by simpa using c), if_pos (by simp; omega)]
    have : (A + 511) / 512 * 512 = A := by omega
    rw [this]
    simp; omega
def lin (p : Int × Int) : Int := p.2 * 16 + p.1
theorem linear_ok {s o : Int} (hs : 0 ≤ s ∧ s ≤ 65535) (ho : 0 ≤ o ∧ o ≤ 65535) (h : s * 16 + o < 1048576) : bits_Linear s o = some (s * 16 + o) := by
  unfold bits_Linear
  have e1 : shlI .u32 (IntKind.wrap .u32 s) 4 = s * 16 := by
    rw [wrapu32 hs.1 (by omega)]
    show IntKind.wrap .u32 (s * 16) = _
    exact wrapu32 (by omega) (by omega)
  rw [e1, wrapu32 (n := o) ho.1 (by omega), wrapu32 (n := s * 16 + o) (by omega) (by omega)]
  have : bitsOp .and .u32 (s * 16 + o) 1048575 = (s * 16 + o) % 1048576 := and_u32 20 (by omega) rfl (by omega) (by omega)
  rw [this]; congr 1; omega
theorem sites_ok {y : Image} (h : Ok y) (E : List (Int × Int)) (he : (E.map lin).Perm y.Relocs) (hE : ∀ p ∈ E, (0 ≤ p.1 ∧ p.1 ≤ 65535) ∧ 0 ≤ p.2 ∧ p.2 ≤ 65535) (Z : List Int) (hd : Header) (h1 : hd.relocs = (y.Relocs.length : Int)) (h2 : hd.paras = hdI (y.Relocs.length : Int) / 16) (h3 : hd.table = 28) :
    mz_sites (HB y ++ (EB E ++ Z)) hd (y.Bytes.length : Int) = some (y.Relocs, 0) := by
  have b1 := h.bl; have b2 := h.rl
  have hh := hd_in (r := (y.Relocs.length : Int)) (by omega) (by omega)
  have t1 := HB_length y; have t2 := EB_length E
  have hl : E.length = y.Relocs.length := by have := he.length_eq; rwa [List.length_map] at this
  unfold mz_sites
  rw [h1, h2, h3, wrap64 (n := (28 : Int)) (by omega) (by omega), wrap64 (n := (y.Relocs.length : Int)) (by omega) (by omega), wrap64 (n := 4 * (y.Relocs.length : Int)) (by omega) (by omega), wrap64 (n := 28 + 4 * (y.Relocs.length : Int)) (by omega) (by omega), wrap64 (n := hdI (y.Relocs.length : Int) / 16) (by omega) (by omega), wrap64 (n := hdI (y.Relocs.length : Int) / 16 * 16) (by omega) (by omega)]
  rw [if_neg (by simp; omega), if_neg (by simp only [List.length_append, decide_eq_true_eq]; omega), if_neg (by simp; omega)]
  have l1 : loopO (fun x : ((List Int) × Int) => mz_sites_l26 x.1 (HB y ++ (EB E ++ Z)) (y.Bytes.length : Int) 28 (y.Relocs.length : Int) x.2) (([] : List Int), 0) = some (E.map lin) := by
    refine pre_loop E (fun xs => (xs.map lin, (xs.length : Int))) (fun _ => True) _ (fun xs p ys e _ => .inl ⟨?_, trivial⟩) (fun _ => ?_) trivial
    · have hlt := len_lt e
      have hp := hE p (by rw [e]; simp)
      have hlp : lin p ∈ y.Relocs := he.mem_iff.1 (List.mem_map.2 ⟨p, by rw [e]; simp, rfl⟩)
      have hr := h.rr _ hlp
      have t4 := EB_length xs
      show mz_sites_l26 (xs.map lin) (HB y ++ (EB E ++ Z)) (y.Bytes.length : Int) 28 (y.Relocs.length : Int) (xs.length : Int) = _
      unfold mz_sites_l26
      have hc : cutL (HB y ++ (EB E ++ Z)) (28 + 4 * (xs.length : Int)) (28 + 4 * (xs.length : Int) + 4) = some (ent p) := by
        have e2 : HB y ++ (EB E ++ Z) = (HB y ++ EB xs) ++ (ent p ++ (EB ys ++ Z)) := by
          rw [e]; simp only [EB, List.flatMap_append, List.flatMap_cons, List.append_assoc]
        rw [e2]
        refine cut_mid _ _ _ ?_ ?_
        · rw [List.length_append]; omega
        · simp only [ent, List.length_append, le_length]; omega
      rw [if_pos (by simp; omega), wrap64 (n := 4 * (xs.length : Int)) (by omega) (by omega), wrap64 (n := 28 + 4 * (xs.length : Int)) (by omega) (by omega), wrap64 (n := 28 + 4 * (xs.length : Int) + 4) (by omega) (by omega), hc, Option.bind_some, from_spec _ (by simp [ent, le_length]), Option.bind_some]
      unfold ent
      rw [word_le hp.1.1 hp.1.2, Option.bind_some]
      simp only
      have hw2 := word_le hp.2.1 hp.2.2 []
      rw [List.append_nil] at hw2
      rw [hw2, Option.bind_some]
      simp only
      unfold lin at hr
      rw [linear_ok hp.2 hp.1 (by omega), Option.bind_some, wrap64 (n := p.2 * 16 + p.1) (by omega) (by omega), grow_eq (by simp only [List.length_map, List.length_cons, List.length_nil]; omega) (by simp only [List.length_map, List.length_cons, List.length_nil]; omega), Option.bind_some, len_snoc xs p (by omega), List.map_append]
      rfl
    · show mz_sites_l26 (E.map lin) (HB y ++ (EB E ++ Z)) (y.Bytes.length : Int) 28 (y.Relocs.length : Int) (E.length : Int) = _
      unfold mz_sites_l26
      rw [if_neg (by simp; omega)]
  rw [l1, Option.bind_some, sort_perm (R := y.Relocs) (by rw [List.length_map]; omega) he (h.rp.imp (fun h => by omega)), Option.bind_some]
  have l2 : loopO (fun x : Int => mz_sites_l49 y.Relocs (y.Bytes.length : Int) y.Relocs (y.Relocs.length : Int) x) 0 = some (.inr ()) := by
    refine pre_loop y.Relocs (fun xs => (xs.length : Int)) (fun _ => True) _ (fun xs v ys e _ => .inl ⟨?_, trivial⟩) (fun _ => ?_) trivial
    · have hl := len_lt e
      have hv := h.rr v (by rw [e]; simp)
      show mz_sites_l49 y.Relocs (y.Bytes.length : Int) y.Relocs (y.Relocs.length : Int) (xs.length : Int) = _
      unfold mz_sites_l49
      rw [if_pos (by simpa using hl), idx_mid e, Option.bind_some, wrap64 (n := (y.Bytes.length : Int) - 2) (by omega) (by omega), if_neg (by simp; omega), len_snoc xs v (by omega)]
      by_cases c : (xs.length : Int) > 0
      · obtain ⟨u, hu, zs, hz⟩ := prev_in e (by omega)
        have := pair_in h.rp hz
        have hu2 := h.rr u (by rw [hz]; simp)
        rw [if_pos (by simpa using c), wrap64 (n := (xs.length : Int) - 1) (by omega) (by omega), hu, Option.bind_some, wrap64 (n := v - u) (by omega) (by omega), if_neg (by simp; omega)]
      · rw [if_neg (by simpa using c)]
    · show mz_sites_l49 y.Relocs (y.Bytes.length : Int) y.Relocs (y.Relocs.length : Int) (y.Relocs.length : Int) = _
      unfold mz_sites_l49
      rw [if_neg (by simp)]
  rw [l2]; rfl
theorem read_ok {y : Image} (h : Ok y) (E : List (Int × Int)) (he : (E.map lin).Perm y.Relocs) (hE : ∀ p ∈ E, (0 ≤ p.1 ∧ p.1 ≤ 65535) ∧ 0 ≤ p.2 ∧ p.2 ≤ 65535) (Z : List Int) (hZ : Z.length ≤ 1000) : mz_Read (FB y E ++ Z) = some (y, 0) := by
  have b1 := h.bl; have b2 := h.rl
  have hh := hd_in (r := (y.Relocs.length : Int)) (by omega) (by omega)
  have t1 := HB_length y; have t2 := EB_length E
  have hl : E.length = y.Relocs.length := by have := he.length_eq; rwa [List.length_map] at this
  have hF := FB_length h E hl
  have ha : all_ y = hdI (y.Relocs.length : Int) + (y.Bytes.length : Int) := rfl
  have eF : FB y E ++ Z = HB y ++ (EB E ++ (PD y ++ (y.Bytes ++ Z))) := by unfold FB; simp only [List.append_assoc]
  have t5 : ((PD y).length : Int) = hdI (y.Relocs.length : Int) - 28 - 4 * (y.Relocs.length : Int) := by unfold PD; rw [List.length_replicate]; omega
  unfold mz_Read
  rw [eF, first_ok h, Option.bind_some]
  simp only
  rw [if_neg (by simp), size_ok h _ rfl rfl rfl, Option.bind_some]
  simp only
  have hc1 := wfI_u16.1 h.cs; have hc2 := wfI_u16.1 h.ip; have hc3 := wfI_u16.1 h.ss; have hc4 := wfI_u16.1 h.sp
  have hm0 := h.m0; have hm1 := h.m1
  rw [wrap64 (n := hdI (y.Relocs.length : Int) / 16) (by omega) (by omega), wrap64 (n := hdI (y.Relocs.length : Int) / 16 * 16) (by omega) (by omega), show hdI (y.Relocs.length : Int) / 16 * 16 = hdI (y.Relocs.length : Int) from by omega,
    if_neg (by simp), if_neg (by simp; omega), if_neg (by rw [← eF, List.length_append]; simp; omega), wrap64 (n := all_ y - hdI (y.Relocs.length : Int)) (by omega) (by omega), show all_ y - hdI (y.Relocs.length : Int) = (y.Bytes.length : Int) from by omega,
    sites_ok h E he hE _ _ rfl rfl rfl, Option.bind_some]
  simp only
  have hc : cutL (HB y ++ (EB E ++ (PD y ++ (y.Bytes ++ Z)))) (hdI (y.Relocs.length : Int)) (all_ y) = some y.Bytes := by
    have e2 : HB y ++ (EB E ++ (PD y ++ (y.Bytes ++ Z))) = (HB y ++ (EB E ++ PD y)) ++ (y.Bytes ++ Z) := by simp only [List.append_assoc]
    rw [e2]
    refine cut_mid _ _ _ ?_ ?_
    · simp only [List.length_append]; omega
    · omega
  rw [if_neg (by simp), hc, Option.bind_some]
  have hcl : slices_Clone_Lbyte y.Bytes = some y.Bytes := by
    unfold slices_Clone_Lbyte; rw [grow_eq (by simp; omega) (by simp; omega)]; rfl
  rw [hcl, Option.bind_some, wrap64 (n := y.Min) (by omega) (by omega)]
  have : ({ Bytes := y.Bytes, Relocs := y.Relocs, CS := y.CS, IP := y.IP, SS := y.SS, SP := y.SP, Min := y.Min } : Image) = y := rfl
  rw [this, may_ok h]; rfl
theorem read_short {y : Image} (h : Ok y) (T : List Int) (hT : ((HB y ++ T).length : Int) < all_ y) : ∃ x, mz_Read (HB y ++ T) = some (x, 2) := by
  have b1 := h.bl; have b2 := h.rl
  have hh := hd_in (r := (y.Relocs.length : Int)) (by omega) (by omega)
  unfold mz_Read
  rw [first_ok h, Option.bind_some]
  simp only
  rw [if_neg (by simp), size_ok h _ rfl rfl rfl, Option.bind_some]
  simp only
  rw [wrap64 (n := hdI (y.Relocs.length : Int) / 16) (by omega) (by omega), wrap64 (n := hdI (y.Relocs.length : Int) / 16 * 16) (by omega) (by omega), if_neg (by simp), if_neg (by simp; omega), if_pos (by simpa using hT)]
  exact ⟨_, rfl⟩
theorem same_ok (y : Image) (h : Ok y) : hansomref44_Same y y = some true := by
  have b2 := h.rl
  unfold hansomref44_Same
  simp only [bne_self_eq_false, Bool.false_eq_true, if_false]
  have key : loopO (fun x : Int => hansomref44_Same_l14 y y x) 0 = some (.inr ()) := by
    refine pre_loop y.Relocs (fun xs => (xs.length : Int)) (fun _ => True) _ (fun xs v ys e _ => .inl ⟨?_, trivial⟩) (fun _ => ?_) trivial
    · have hl := len_lt e
      show hansomref44_Same_l14 y y (xs.length : Int) = _
      unfold hansomref44_Same_l14
      rw [if_pos (by simpa using hl), idx_mid e, Option.bind_some, Option.bind_some, if_neg (by simp), len_snoc xs v (by omega)]
    · show hansomref44_Same_l14 y y (y.Relocs.length : Int) = _
      unfold hansomref44_Same_l14
      rw [if_neg (by simp)]
  rw [key]; rfl
theorem ents_perm (y : Image) : ((ents y).map lin).Perm y.Relocs := by
  have : (ents y).map lin = y.Relocs := by
    unfold ents
    rw [List.map_map]
    have : (lin ∘ fun x : Int => (x % 16, x / 16)) = id := by
      funext x
      simp only [Function.comp, lin, id]; omega
    rw [this, List.map_id]
  rw [this]
theorem ents_in {y : Image} (h : Ok y) : ∀ p ∈ ents y, (0 ≤ p.1 ∧ p.1 ≤ 65535) ∧ 0 ≤ p.2 ∧ p.2 ≤ 65535 := by
  intro p hp
  obtain ⟨x, hx, rfl⟩ := List.mem_map.1 hp
  have := h.rr x hx; have := h.bl
  simp only; omega

/-! that something is answered, and of what kind -/
def Tot {α : Type} (o : Option α) (Q : α → Prop) : Prop := ∃ r, o = some r ∧ Q r
theorem Tot.bind {α β : Type} {o : Option α} {f : α → Option β} {P : α → Prop} {Q : β → Prop} (h : Tot o P) (k : ∀ x, P x → Tot (f x) Q) : Tot (o.bind f) Q := by
  obtain ⟨x, hx, hp⟩ := h
  rw [hx, Option.bind_some]; exact k x hp
theorem Tot.ite {α : Type} {c : Prop} [Decidable c] {a b : Option α} {Q : α → Prop} (h1 : c → Tot a Q) (h2 : ¬ c → Tot b Q) : Tot (if c then a else b) Q := by
  by_cases h : c
  · rw [if_pos h]; exact h1 h
  · rw [if_neg h]; exact h2 h
theorem Tot.ret {α : Type} {r : α} {Q : α → Prop} (h : Q r) : Tot (some r) Q := ⟨r, rfl, h⟩
theorem Tot.mono {α : Type} {o : Option α} {P Q : α → Prop} (h : Tot o P) (k : ∀ x, P x → Q x) : Tot o Q := by
  obtain ⟨x, hx, hp⟩ := h; exact ⟨x, hx, k x hp⟩
theorem Tot.idx {α : Type} {l : List α} {i : Int} (h : 0 ≤ i ∧ i < (l.length : Int)) : Tot (idx l i) (fun _ => True) := ⟨_, idx_eq h.1 h.2, trivial⟩
/-- a loop's round: on with I and a lesser m, or out with Q -/
def Rnd {σ β : Type} (I : σ → Prop) (m : Nat) (μ : σ → Nat) (Q : β → Prop) : Lp σ β → Prop
  | .next y => I y ∧ μ y < m
  | .out b => Q b
theorem Tot.loop {σ β : Type} {f : σ → Option (Lp σ β)} (I : σ → Prop) (μ : σ → Nat) (Q : β → Prop) (h : ∀ x, I x → Tot (f x) (Rnd I (μ x) μ Q)) {x : σ} (hx : I x) : Tot (loopO f x) Q := by
  refine loop_rule I μ Q (fun x hI => ?_) hx
  obtain ⟨r, hr, hq⟩ := h x hI
  cases r with
  | next y => exact .inl ⟨y, hr, hq⟩
  | out b => exact .inr ⟨b, hr, hq⟩
theorem less_tot (x y : Int) : Tot (cmp_Less_int x y) (fun _ => True) := by
  unfold cmp_Less_int cmp_isNaN_int
  refine ⟨decide (x < y), ?_, trivial⟩
  simp
theorem ins_in (data w : List Int) (a b i j : Int) (ha : 0 ≤ a) (hl : w.length ≤ 1000) (hj : j < (w.length : Int)) :
    Tot (slices_insertionSortOrdered_int_l15 data w a b i j) (Rnd (fun x : List Int × Int => x.1.length = w.length ∧ x.2 < (w.length : Int)) j.toNat (fun x => x.2.toNat) (fun x => x.length = w.length)) := by
  unfold slices_insertionSortOrdered_int_l15
  refine Tot.ite (fun c => ?_) (fun _ => ?_)
  · have c := of_decide_eq_true c
    simp (disch := omega) only [wrap64]
    (repeat' (first | (refine Tot.bind (Tot.idx ⟨by ((try simp only [List.length_set, decide_eq_true_eq, Bool.not_eq_true', ge_iff_le, gt_iff_lt] at *); omega), by ((try simp only [List.length_set, decide_eq_true_eq, Bool.not_eq_true', ge_iff_le, gt_iff_lt] at *); omega)⟩) (fun _ _ => ?_)) | (refine Tot.bind (less_tot _ _) (fun _ _ => ?_)) | (refine Tot.ite (fun _ => ?_) (fun _ => ?_)) | (apply Tot.ret))) <;> (first | rfl | (show (_ ∧ _); simp only [List.length_set, decide_eq_true_eq, Bool.not_eq_true', true_and]; omega) | (show (_ = _); simp only [List.length_set]; omega))
  · exact Tot.ret rfl
theorem ins_tot (d : List Int) (a b : Int) (ha : 0 ≤ a) (hl : d.length ≤ 1000) (hb : b ≤ (d.length : Int)) (hab : a ≤ 1000) :
    Tot (slices_insertionSortOrdered_int d a b) (fun x => x.length = d.length) := by
  unfold slices_insertionSortOrdered_int
  rw [wrap64 (by omega) (by omega)]
  refine Tot.bind (P := fun x => x.length = d.length) (Tot.loop (fun x : List Int × Int => x.1.length = d.length ∧ a < x.2 ∧ x.2 ≤ 1001) (fun x => (b - x.2).toNat) _ (fun x hx => ?_) ⟨rfl, by omega, by omega⟩) (fun x hx => ?_)
  · obtain ⟨w, i⟩ := x
    obtain ⟨h1, h2, h3⟩ := hx
    dsimp only at h1 h2 h3 ⊢
    unfold slices_insertionSortOrdered_int_l3
    refine Tot.ite (fun c => ?_) (fun _ => Tot.ret h1)
    have c := of_decide_eq_true c
    refine Tot.bind (P := fun x => x.length = d.length) (Tot.loop (fun x : List Int × Int => x.1.length = d.length ∧ x.2 < (d.length : Int)) (fun x => x.2.toNat) _ (fun x hx => ?_) ⟨h1, by dsimp only; omega⟩) (fun x hx => ?_)
    · have := ins_in d x.1 a b i x.2 ha (by omega) (by omega)
      rw [hx.1] at this; exact this
    · rw [wrap64 (by omega) (by omega)]
      exact Tot.ret ⟨⟨hx, by dsimp only; omega, by dsimp only; omega⟩, by dsimp only; omega⟩
  · rw [if_pos hx]; exact Tot.ret hx

theorem sift_j (data w : List Int) (hi first root child : Int) (hd : w.length = data.length) (hl : w.length ≤ 1000) (h0 : 0 ≤ first) (h1 : 0 ≤ root) (h2 : root < child) (h3 : child < hi) (h4 : first + hi ≤ (w.length : Int)) :
    Tot (slices_siftDownOrdered_int_j19 data w hi first root child) (Rnd (fun x : List Int × Int => x.1.length = data.length ∧ 0 ≤ x.2 ∧ x.2 < hi) (hi - root).toNat (fun x => (hi - x.2).toNat) (fun x : List Int ⊕ List Int => match x with | .inl y => y.length = data.length | .inr y => y.length = data.length)) := by
  unfold slices_siftDownOrdered_int_j19
  simp (disch := omega) only [wrap64]
  refine Tot.bind (Tot.idx ⟨by ((try simp only [List.length_set, decide_eq_true_eq, Bool.not_eq_true', ge_iff_le, gt_iff_lt] at *); omega), by ((try simp only [List.length_set, decide_eq_true_eq, Bool.not_eq_true', ge_iff_le, gt_iff_lt] at *); omega)⟩) (fun _ _ => ?_)
  refine Tot.bind (Tot.idx ⟨by ((try simp only [List.length_set, decide_eq_true_eq, Bool.not_eq_true', ge_iff_le, gt_iff_lt] at *); omega), by ((try simp only [List.length_set, decide_eq_true_eq, Bool.not_eq_true', ge_iff_le, gt_iff_lt] at *); omega)⟩) (fun _ _ => ?_)
  refine Tot.bind (less_tot _ _) (fun r _ => ?_)
  refine Tot.ite (fun _ => ?_) (fun _ => ?_)
  · rw [if_pos hd]; exact Tot.ret hd
  · (repeat' (first | (refine Tot.bind (Tot.idx ⟨by ((try simp only [List.length_set, decide_eq_true_eq, Bool.not_eq_true', ge_iff_le, gt_iff_lt] at *); omega), by ((try simp only [List.length_set, decide_eq_true_eq, Bool.not_eq_true', ge_iff_le, gt_iff_lt] at *); omega)⟩) (fun _ _ => ?_)) | (refine Tot.bind (less_tot _ _) (fun _ _ => ?_)) | (refine Tot.ite (fun _ => ?_) (fun _ => ?_)) | (apply Tot.ret))) <;> (first | rfl | (show (_ ∧ _); simp only [List.length_set, decide_eq_true_eq, Bool.not_eq_true', true_and]; omega) | (show (_ = _); simp only [List.length_set]; omega))
theorem sift_tot (d : List Int) (lo hi first : Int) (hl : d.length ≤ 1000) (h0 : 0 ≤ first) (h1 : 0 ≤ lo) (h2 : lo ≤ 1000) (h4 : first + hi ≤ (d.length : Int)) (h5 : hi ≤ 1000) (h6 : first ≤ 1000) (h7 : -1000 ≤ hi) :
    Tot (slices_siftDownOrdered_int d lo hi first) (fun x => x.length = d.length) := by
  unfold slices_siftDownOrdered_int
  refine Tot.bind (Tot.loop (fun x : List Int × Int => x.1.length = d.length ∧ 0 ≤ x.2 ∧ x.2 ≤ 1000) (fun x => (hi - x.2).toNat) (fun x : List Int ⊕ List Int => match x with | .inl y => y.length = d.length | .inr y => y.length = d.length) (fun x hx => ?_) ⟨rfl, h1, h2⟩) (fun x hx => ?_)
  · obtain ⟨w, root⟩ := x
    obtain ⟨e1, e2, e3⟩ := hx
    dsimp only at e1 e2 e3 ⊢
    unfold slices_siftDownOrdered_int_l3
    simp (disch := omega) only [wrap64]
    have key : ∀ child : Int, root < child → child < hi → Tot (slices_siftDownOrdered_int_j19 d w hi first root child) (Rnd (fun x : List Int × Int => x.1.length = d.length ∧ 0 ≤ x.2 ∧ x.2 ≤ 1000) (hi - root).toNat (fun x => (hi - x.2).toNat) (fun x : List Int ⊕ List Int => match x with | .inl y => y.length = d.length | .inr y => y.length = d.length)) := by
      intro child g1 g2
      refine (sift_j d w hi first root child e1 (by omega) h0 e2 g1 g2 (by omega)).mono fun r hr => ?_
      cases r with
      | next y => exact ⟨⟨hr.1.1, hr.1.2.1, by have := hr.1.2.2; omega⟩, hr.2⟩
      | out b => exact hr
    refine Tot.ite (fun c => Tot.ret e1) (fun c => ?_)
    have c : ¬ (2 * root + 1 ≥ hi) := fun h => c (decide_eq_true h)
    refine Tot.ite (fun c' => ?_) (fun _ => key _ (by omega) (by omega))
    have c' := of_decide_eq_true c'
    refine Tot.bind (Tot.idx ⟨by omega, by omega⟩) (fun _ _ => ?_)
    refine Tot.bind (Tot.idx ⟨by omega, by omega⟩) (fun _ _ => ?_)
    refine Tot.bind (less_tot _ _) (fun r _ => ?_)
    exact Tot.ite (fun _ => key _ (by omega) (by omega)) (fun _ => key _ (by omega) (by omega))
  · cases x with
    | inl y => dsimp only at hx ⊢; rw [if_pos hx]; exact Tot.ret hx
    | inr y => exact Tot.ret hx
theorem heap_tot (d : List Int) (a b : Int) (ha : 0 ≤ a) (hl : d.length ≤ 1000) (hb : b ≤ (d.length : Int)) (hab : a ≤ b) :
    Tot (slices_heapSortOrdered_int d a b) (fun x => x.length = d.length) := by
  unfold slices_heapSortOrdered_int
  simp (disch := omega) only [wrap64]
  have q : Int.tdiv (b - a - 1) 2 ≤ 1000 ∧ -1 ≤ Int.tdiv (b - a - 1) 2 := by
    by_cases c : b = a
    · rw [show b - a - 1 = -1 by omega]; decide
    · rw [Int.tdiv_eq_ediv_of_nonneg (by omega)]; omega
  rw [wrap64 (by omega) (by omega)]
  refine Tot.bind (P := fun x => x.length = d.length) (Tot.loop (fun x : List Int × Int => x.1.length = d.length ∧ x.2 ≤ 1000 ∧ -1 ≤ x.2) (fun x => (x.2 + 1).toNat) _ (fun x hx => ?_) ⟨rfl, q⟩) (fun x hx => ?_)
  · obtain ⟨w, i⟩ := x
    obtain ⟨e1, e2, e3⟩ := hx
    dsimp only at e1 e2 e3 ⊢
    unfold slices_heapSortOrdered_int_l10
    refine Tot.ite (fun c => ?_) (fun _ => Tot.ret e1)
    have c := of_decide_eq_true c
    refine Tot.bind (sift_tot w i (b - a) a (by omega) ha (by omega) (by omega) (by omega) (by omega) (by omega) (by omega)) (fun r hr => ?_)
    rw [wrap64 (by omega) (by omega)]
    exact Tot.ret ⟨⟨by dsimp only; omega, by dsimp only; omega, by dsimp only; omega⟩, by dsimp only; omega⟩
  · refine Tot.bind (P := fun x => x.length = d.length) (Tot.loop (fun x : List Int × Int => x.1.length = d.length ∧ x.2 ≤ b - a - 1 ∧ -1 ≤ x.2) (fun x => (x.2 + 1).toNat) _ (fun x hx => ?_) ⟨hx, by dsimp only; omega, by dsimp only; omega⟩) (fun x hx => ?_)
    · obtain ⟨w, i⟩ := x
      obtain ⟨e1, e2, e3⟩ := hx
      dsimp only at e1 e2 e3 ⊢
      unfold slices_heapSortOrdered_int_l24
      refine Tot.ite (fun c => ?_) (fun _ => Tot.ret e1)
      have c := of_decide_eq_true c
      simp (disch := omega) only [wrap64]
      refine Tot.bind (Tot.idx ⟨by ((try simp only [List.length_set, decide_eq_true_eq, Bool.not_eq_true', ge_iff_le, gt_iff_lt] at *); omega), by ((try simp only [List.length_set, decide_eq_true_eq, Bool.not_eq_true', ge_iff_le, gt_iff_lt] at *); omega)⟩) (fun _ _ => ?_)
      refine Tot.bind (Tot.idx ⟨by ((try simp only [List.length_set, decide_eq_true_eq, Bool.not_eq_true', ge_iff_le, gt_iff_lt] at *); omega), by ((try simp only [List.length_set, decide_eq_true_eq, Bool.not_eq_true', ge_iff_le, gt_iff_lt] at *); omega)⟩) (fun _ _ => ?_)
      refine Tot.bind (Tot.idx ⟨by ((try simp only [List.length_set, decide_eq_true_eq, Bool.not_eq_true', ge_iff_le, gt_iff_lt] at *); omega), by ((try simp only [List.length_set, decide_eq_true_eq, Bool.not_eq_true', ge_iff_le, gt_iff_lt] at *); omega)⟩) (fun _ _ => ?_)
      refine Tot.bind (Tot.idx ⟨by ((try simp only [List.length_set, decide_eq_true_eq, Bool.not_eq_true', ge_iff_le, gt_iff_lt] at *); omega), by ((try simp only [List.length_set, decide_eq_true_eq, Bool.not_eq_true', ge_iff_le, gt_iff_lt] at *); omega)⟩) (fun _ _ => ?_)
      refine Tot.bind (sift_tot _ 0 i a (by ((try simp only [List.length_set, decide_eq_true_eq, Bool.not_eq_true', ge_iff_le, gt_iff_lt] at *); omega)) ha (by omega) (by omega) (by ((try simp only [List.length_set, decide_eq_true_eq, Bool.not_eq_true', ge_iff_le, gt_iff_lt] at *); omega)) (by omega) (by omega) (by omega)) (fun r hr => ?_)
      simp only [List.length_set] at hr
      exact Tot.ret ⟨⟨by dsimp only; omega, by dsimp only; omega, by dsimp only; omega⟩, by dsimp only; omega⟩
    · rw [if_pos hx]; exact Tot.ret hx

theorem rev_tot (d : List Int) (a b : Int) (ha : 0 ≤ a) (hl : d.length ≤ 1000) (hb : b ≤ (d.length : Int)) (hab : a ≤ 1000) (hb0 : 0 ≤ b) :
    Tot (slices_reverseRangeOrdered_int d a b) (fun x => x.length = d.length) := by
  unfold slices_reverseRangeOrdered_int
  rw [wrap64 (by omega) (by omega)]
  refine Tot.bind (P := fun x => x.length = d.length) (Tot.loop (fun x : List Int × Int × Int => x.1.length = d.length ∧ 0 ≤ x.2.1 ∧ x.2.1 ≤ 2000 ∧ x.2.2 ≤ b - 1 ∧ -10 ≤ x.2.2) (fun x => (x.2.2 + 20 - x.2.1 + 2000).toNat) _ (fun x hx => ?_) ⟨rfl, by dsimp only; omega, by dsimp only; omega, by dsimp only; omega, by dsimp only; omega⟩) (fun x hx => ?_)
  · obtain ⟨w, i, j⟩ := x
    obtain ⟨e1, e2, e3, e4, e5⟩ := hx
    dsimp only at e1 e2 e3 e4 e5 ⊢
    unfold slices_reverseRangeOrdered_int_l5
    refine Tot.ite (fun c => ?_) (fun _ => Tot.ret e1)
    have c := of_decide_eq_true c
    simp (disch := omega) only [wrap64]
    (repeat' (first | (refine Tot.bind (Tot.idx ⟨by ((try simp only [List.length_set, decide_eq_true_eq, Bool.not_eq_true', ge_iff_le, gt_iff_lt] at *); omega), by ((try simp only [List.length_set, decide_eq_true_eq, Bool.not_eq_true', ge_iff_le, gt_iff_lt] at *); omega)⟩) (fun _ _ => ?_)) | (refine Tot.bind (less_tot _ _) (fun _ _ => ?_)) | (refine Tot.ite (fun _ => ?_) (fun _ => ?_)) | (apply Tot.ret))) <;> (first | rfl | (show (_ ∧ _); simp only [List.length_set, decide_eq_true_eq, Bool.not_eq_true', true_and]; omega) | (show (_ = _); simp only [List.length_set]; omega))
  · rw [if_pos hx]; exact Tot.ret hx
theorem ord2_tot (d : List Int) (a b s : Int) (ha : 0 ≤ a ∧ a < (d.length : Int)) (hb : 0 ≤ b ∧ b < (d.length : Int)) (hs : 0 ≤ s ∧ s ≤ 100) :
    Tot (slices_order2Ordered_int d a b s) (fun r => ((r.1 = a ∧ r.2.1 = b) ∨ (r.1 = b ∧ r.2.1 = a)) ∧ 0 ≤ r.2.2 ∧ r.2.2 ≤ s + 1) := by
  unfold slices_order2Ordered_int
  rw [wrap64 (by omega) (by omega)]
  refine Tot.bind (Tot.idx hb) (fun _ _ => ?_)
  refine Tot.bind (Tot.idx ha) (fun _ _ => ?_)
  refine Tot.bind (less_tot _ _) (fun _ _ => ?_)
  exact Tot.ite (fun _ => Tot.ret ⟨.inr ⟨rfl, rfl⟩, by dsimp only; omega, by dsimp only; omega⟩) (fun _ => Tot.ret ⟨.inl ⟨rfl, rfl⟩, by dsimp only; omega, by dsimp only; omega⟩)
theorem med_tot (d : List Int) (a b c s lo hi : Int) (h0 : 0 ≤ lo) (hh : hi ≤ (d.length : Int)) (ha : lo ≤ a ∧ a < hi) (hb : lo ≤ b ∧ b < hi) (hc : lo ≤ c ∧ c < hi) (hs : 0 ≤ s ∧ s ≤ 90) :
    Tot (slices_medianOrdered_int d a b c s) (fun r => lo ≤ r.1 ∧ r.1 < hi ∧ 0 ≤ r.2 ∧ r.2 ≤ s + 3) := by
  unfold slices_medianOrdered_int
  refine Tot.bind (ord2_tot d a b s (by omega) (by omega) (by omega)) (fun r hr => ?_)
  refine Tot.bind (ord2_tot d r.2.1 c r.2.2 (by omega) (by omega) (by omega)) (fun r2 hr2 => ?_)
  refine Tot.bind (ord2_tot d r.1 r2.1 r2.2.2 (by omega) (by omega) (by omega)) (fun r3 hr3 => ?_)
  exact Tot.ret ⟨by dsimp only; omega, by dsimp only; omega, by dsimp only; omega, by dsimp only; omega⟩
theorem piv_tot (d : List Int) (a b : Int) (ha : 0 ≤ a) (hl : d.length ≤ 49) (hb : b ≤ (d.length : Int)) (hab : a + 4 ≤ b) :
    Tot (slices_choosePivotOrdered_int d a b) (fun r => a ≤ r.1 ∧ r.1 < b ∧ 0 ≤ r.2 ∧ r.2 ≤ 2) := by
  unfold slices_choosePivotOrdered_int
  have q : Int.tdiv (b - a) 4 = (b - a) / 4 := Int.tdiv_eq_ediv_of_nonneg (by omega)
  simp (disch := omega) only [wrap64, q]
  have jj : ∀ s j : Int, a ≤ j → j < b → Tot (slices_choosePivotOrdered_int_j28 s d j) (fun r => a ≤ r.1 ∧ r.1 < b ∧ 0 ≤ r.2 ∧ r.2 ≤ 2) := by
    intro s j h1 h2
    unfold slices_choosePivotOrdered_int_j28
    exact Tot.ite (fun _ => Tot.ret ⟨h1, h2, by dsimp only; omega, by dsimp only; omega⟩) (fun _ => Tot.ite (fun _ => Tot.ret ⟨h1, h2, by dsimp only; omega, by dsimp only; omega⟩) (fun _ => Tot.ret ⟨h1, h2, by dsimp only; omega, by dsimp only; omega⟩))
  refine Tot.ite (fun c => ?_) (fun _ => jj _ _ (by omega) (by omega))
  have c := of_decide_eq_true c
  refine Tot.ite (fun c' => ?_) (fun _ => ?_)
  · have c' := of_decide_eq_true c'
    omega
  · refine Tot.bind (med_tot d _ _ _ 0 a b ha hb (by omega) (by omega) (by omega) (by omega)) (fun r hr => ?_)
    exact jj _ _ (by omega) (by omega)
/-! partitions -/
theorem up_tot {f : Int → Option (Lp Int Int)} (i j : Int) (hf : ∀ x, i ≤ x → x ≤ j + 2 → Tot (f x) (Rnd (fun y => y = x + 1 ∧ x ≤ j) (j + 3 - x).toNat (fun y => (j + 3 - y).toNat) (fun y => y = x))) (hij : i ≤ j + 2) :
    Tot (loopO f i) (fun y => i ≤ y ∧ (y = i ∨ y ≤ j + 1)) := by
  refine Tot.loop (fun x => i ≤ x ∧ (x = i ∨ x ≤ j + 1)) (fun x => (j + 3 - x).toNat) _ (fun x hx => ?_) ⟨Int.le_refl _, .inl rfl⟩
  refine (hf x hx.1 (by omega)).mono fun r hr => ?_
  cases r with
  | next y => exact ⟨⟨by have := hr.1; omega, by have := hr.1; omega⟩, hr.2⟩
  | out b => have : b = x := hr; subst this; exact hx
theorem dn_tot {f : Int → Option (Lp Int Int)} (i j : Int) (hf : ∀ x, x ≤ j → i - 2 ≤ x → Tot (f x) (Rnd (fun y => y = x - 1 ∧ i ≤ x) (x + 3 - i).toNat (fun y => (y + 3 - i).toNat) (fun y => y = x))) (hij : i ≤ j + 2) :
    Tot (loopO f j) (fun y => y ≤ j ∧ (y = j ∨ i - 1 ≤ y)) := by
  refine Tot.loop (fun x => x ≤ j ∧ (x = j ∨ i - 1 ≤ x)) (fun x => (x + 3 - i).toNat) _ (fun x hx => ?_) ⟨Int.le_refl _, .inl rfl⟩
  refine (hf x hx.1 (by omega)).mono fun r hr => ?_
  cases r with
  | next y => exact ⟨⟨by have := hr.1; omega, by have := hr.1; omega⟩, hr.2⟩
  | out b => have : b = x := hr; subst this; exact hx
theorem pe12 (d w : List Int) (a i j : Int) (ha : 0 ≤ a ∧ a < i) (hl : w.length ≤ 1000) (hj : j < (w.length : Int)) (hij : i ≤ j + 2) :
    Tot (loopO (fun x : Int => slices_partitionEqualOrdered_int_l12 d w a x j) i) (fun y => i ≤ y ∧ (y = i ∨ y ≤ j + 1)) := by
  refine up_tot i j (fun x h1 h2 => ?_) hij
  unfold slices_partitionEqualOrdered_int_l12
  refine Tot.ite (fun c => ?_) (fun _ => Tot.ret rfl)
  have c := of_decide_eq_true c
  rw [wrap64 (by omega) (by omega)]
  refine Tot.bind (Tot.idx ⟨by omega, by omega⟩) (fun _ _ => Tot.bind (Tot.idx ⟨by omega, by omega⟩) (fun _ _ => Tot.bind (less_tot _ _) (fun _ _ => Tot.ite (fun _ => Tot.ret ⟨⟨rfl, c⟩, by dsimp only; omega⟩) (fun _ => Tot.ret rfl))))
theorem pe23 (d w : List Int) (a i j : Int) (ha : 0 ≤ a ∧ a < i) (hl : w.length ≤ 1000) (hj : j < (w.length : Int)) (hij : i ≤ j + 2) :
    Tot (loopO (fun x : Int => slices_partitionEqualOrdered_int_l23 d w a i x) j) (fun y => y ≤ j ∧ (y = j ∨ i - 1 ≤ y)) := by
  refine dn_tot i j (fun x h1 h2 => ?_) hij
  unfold slices_partitionEqualOrdered_int_l23
  refine Tot.ite (fun c => ?_) (fun _ => Tot.ret rfl)
  have c := of_decide_eq_true c
  rw [wrap64 (by omega) (by omega)]
  refine Tot.bind (Tot.idx ⟨by omega, by omega⟩) (fun _ _ => Tot.bind (Tot.idx ⟨by omega, by omega⟩) (fun _ _ => Tot.bind (less_tot _ _) (fun _ _ => Tot.ite (fun _ => Tot.ret ⟨⟨rfl, c⟩, by dsimp only; omega⟩) (fun _ => Tot.ret rfl))))
theorem pa8 (d w : List Int) (a i j : Int) (ha : 0 ≤ a ∧ a < i) (hl : w.length ≤ 1000) (hj : j < (w.length : Int)) (hij : i ≤ j + 2) :
    Tot (loopO (fun x : Int => slices_partitionOrdered_int_l8 d w a x j) i) (fun y => i ≤ y ∧ (y = i ∨ y ≤ j + 1)) := by
  refine up_tot i j (fun x h1 h2 => ?_) hij
  unfold slices_partitionOrdered_int_l8
  refine Tot.ite (fun c => ?_) (fun _ => Tot.ret rfl)
  have c := of_decide_eq_true c
  rw [wrap64 (by omega) (by omega)]
  refine Tot.bind (Tot.idx ⟨by omega, by omega⟩) (fun _ _ => Tot.bind (Tot.idx ⟨by omega, by omega⟩) (fun _ _ => Tot.bind (less_tot _ _) (fun _ _ => Tot.ite (fun _ => Tot.ret ⟨⟨rfl, c⟩, by dsimp only; omega⟩) (fun _ => Tot.ret rfl))))
theorem pa19 (d w : List Int) (a i j : Int) (ha : 0 ≤ a ∧ a < i) (hl : w.length ≤ 1000) (hj : j < (w.length : Int)) (hij : i ≤ j + 2) :
    Tot (loopO (fun x : Int => slices_partitionOrdered_int_l19 d w a i x) j) (fun y => y ≤ j ∧ (y = j ∨ i - 1 ≤ y)) := by
  refine dn_tot i j (fun x h1 h2 => ?_) hij
  unfold slices_partitionOrdered_int_l19
  refine Tot.ite (fun c => ?_) (fun _ => Tot.ret rfl)
  have c := of_decide_eq_true c
  rw [wrap64 (by omega) (by omega)]
  refine Tot.bind (Tot.idx ⟨by omega, by omega⟩) (fun _ _ => Tot.bind (Tot.idx ⟨by omega, by omega⟩) (fun _ _ => Tot.bind (less_tot _ _) (fun _ _ => Tot.ite (fun _ => Tot.ret ⟨⟨rfl, c⟩, by dsimp only; omega⟩) (fun _ => Tot.ret rfl))))
theorem pa50 (d w : List Int) (a i j : Int) (ha : 0 ≤ a ∧ a < i) (hl : w.length ≤ 1000) (hj : j < (w.length : Int)) (hij : i ≤ j + 2) :
    Tot (loopO (fun x : Int => slices_partitionOrdered_int_l50 d w a x j) i) (fun y => i ≤ y ∧ (y = i ∨ y ≤ j + 1)) := pa8 d w a i j ha hl hj hij
theorem pa61 (d w : List Int) (a i j : Int) (ha : 0 ≤ a ∧ a < i) (hl : w.length ≤ 1000) (hj : j < (w.length : Int)) (hij : i ≤ j + 2) :
    Tot (loopO (fun x : Int => slices_partitionOrdered_int_l61 d w a i x) j) (fun y => y ≤ j ∧ (y = j ∨ i - 1 ≤ y)) := pa19 d w a i j ha hl hj hij
theorem peq_tot (d : List Int) (a b p : Int) (ha : 0 ≤ a) (hl : d.length ≤ 1000) (hb : b ≤ (d.length : Int)) (hp : a ≤ p ∧ p < b) :
    Tot (slices_partitionEqualOrdered_int d a b p) (fun r => a < r.1 ∧ r.1 ≤ b ∧ r.2.length = d.length) := by
  unfold slices_partitionEqualOrdered_int
  simp (disch := omega) only [wrap64]
  refine Tot.bind (Tot.idx ⟨by omega, by omega⟩) (fun z1 _ => ?_)
  refine Tot.bind (Tot.idx ⟨by omega, by omega⟩) (fun z2 _ => ?_)
  refine Tot.bind (Tot.idx ⟨by omega, by omega⟩) (fun _ _ => ?_)
  refine Tot.bind (Tot.idx ⟨by omega, by ((try simp only [List.length_set, decide_eq_true_eq, Bool.not_eq_true', ge_iff_le, gt_iff_lt] at *); omega)⟩) (fun _ _ => ?_)
  refine Tot.bind (P := fun x : List Int × Int => x.1.length = d.length ∧ a < x.2 ∧ x.2 ≤ b) (Tot.loop (fun x : List Int × Int × Int => x.1.length = d.length ∧ a < x.2.1 ∧ x.2.1 ≤ b ∧ x.2.1 ≤ x.2.2 + 2 ∧ x.2.2 < b ∧ a ≤ x.2.2) (fun x => (x.2.2 + 3 - x.2.1).toNat) _ (fun x hx => ?_) ⟨by simp only [List.length_set], by dsimp only; omega, by dsimp only; omega, by dsimp only; omega, by dsimp only; omega, by dsimp only; omega⟩) (fun x hx => ?_)
  · obtain ⟨w, i, j⟩ := x
    obtain ⟨e1, e2, e3, e4, e5, e6⟩ := hx
    dsimp only at e1 e2 e3 e4 e5 e6 ⊢
    unfold slices_partitionEqualOrdered_int_l8
    refine Tot.bind (pe12 d w a i j ⟨ha, e2⟩ (by omega) (by omega) e4) (fun i' hi => ?_)
    refine Tot.bind (pe23 d w a i' j ⟨ha, by omega⟩ (by omega) (by omega) (by omega)) (fun j' hj => ?_)
    refine Tot.ite (fun c => Tot.ret ⟨e1, by dsimp only; omega, by dsimp only; omega⟩) (fun c => ?_)
    have c : ¬ (i' > j') := fun h => c (decide_eq_true h)
    simp (disch := omega) only [wrap64]
    (repeat' (first | (refine Tot.bind (Tot.idx ⟨by ((try simp only [List.length_set, decide_eq_true_eq, Bool.not_eq_true', ge_iff_le, gt_iff_lt] at *); omega), by ((try simp only [List.length_set, decide_eq_true_eq, Bool.not_eq_true', ge_iff_le, gt_iff_lt] at *); omega)⟩) (fun _ _ => ?_)) | (refine Tot.bind (less_tot _ _) (fun _ _ => ?_)) | (refine Tot.ite (fun _ => ?_) (fun _ => ?_)) | (apply Tot.ret))) <;> (first | rfl | (show (_ ∧ _); simp only [List.length_set, decide_eq_true_eq, Bool.not_eq_true', true_and]; omega) | (show (_ = _); simp only [List.length_set]; omega))
  · rw [if_pos hx.1]; exact Tot.ret ⟨hx.2.1, hx.2.2, hx.1⟩
theorem part_tot (d : List Int) (a b p : Int) (ha : 0 ≤ a) (hl : d.length ≤ 1000) (hb : b ≤ (d.length : Int)) (hp : a ≤ p ∧ p < b) :
    Tot (slices_partitionOrdered_int d a b p) (fun r => a ≤ r.1 ∧ r.1 < b ∧ r.2.2.length = d.length) := by
  unfold slices_partitionOrdered_int
  simp (disch := omega) only [wrap64]
  refine Tot.bind (Tot.idx ⟨by omega, by omega⟩) (fun z1 _ => ?_)
  refine Tot.bind (Tot.idx ⟨by omega, by omega⟩) (fun z2 _ => ?_)
  refine Tot.bind (Tot.idx ⟨by omega, by omega⟩) (fun _ _ => ?_)
  refine Tot.bind (Tot.idx ⟨by omega, by ((try simp only [List.length_set, decide_eq_true_eq, Bool.not_eq_true', ge_iff_le, gt_iff_lt] at *); omega)⟩) (fun _ _ => ?_)
  have hw : ((d.set a.toNat z1).set p.toNat z2).length = d.length := by simp only [List.length_set]
  refine Tot.bind (pa8 d _ a (a + 1) (b - 1) (by omega) (by omega) (by omega) (by omega)) (fun i hi => ?_)
  refine Tot.bind (pa19 d _ a i (b - 1) (by omega) (by omega) (by omega) (by omega)) (fun j hj => ?_)
  refine Tot.ite (fun c => ?_) (fun c => ?_)
  · refine Tot.bind (Tot.idx ⟨by omega, by omega⟩) (fun _ _ => ?_)
    refine Tot.bind (Tot.idx ⟨by omega, by omega⟩) (fun _ _ => ?_)
    refine Tot.bind (Tot.idx ⟨by omega, by omega⟩) (fun _ _ => ?_)
    refine Tot.bind (Tot.idx ⟨by omega, by rw [List.length_set]; omega⟩) (fun _ _ => ?_)
    exact Tot.ret ⟨by dsimp only; omega, by dsimp only; omega, by simp only [List.length_set]⟩
  · have c : ¬ (i > j) := fun h => c (decide_eq_true h)
    simp (disch := omega) only [wrap64]
    refine Tot.bind (Tot.idx ⟨by omega, by omega⟩) (fun _ _ => ?_)
    refine Tot.bind (Tot.idx ⟨by omega, by omega⟩) (fun _ _ => ?_)
    refine Tot.bind (Tot.idx ⟨by omega, by omega⟩) (fun _ _ => ?_)
    refine Tot.bind (Tot.idx ⟨by omega, by rw [List.length_set]; omega⟩) (fun _ _ => ?_)
    refine Tot.bind (P := fun x : List Int × Int => x.1.length = d.length ∧ a ≤ x.2 ∧ x.2 < b) (Tot.loop (fun x : List Int × Int × Int => x.1.length = d.length ∧ a < x.2.1 ∧ x.2.1 ≤ x.2.2 + 2 ∧ x.2.2 < b ∧ a ≤ x.2.2) (fun x => (x.2.2 + 3 - x.2.1).toNat) _ (fun x hx => ?_) ⟨by simp only [List.length_set], by dsimp only; omega, by dsimp only; omega, by dsimp only; omega, by dsimp only; omega⟩) (fun x hx => ?_)
    · obtain ⟨w, i, j⟩ := x
      obtain ⟨e1, e2, e4, e5, e6⟩ := hx
      dsimp only at e1 e2 e4 e5 e6 ⊢
      unfold slices_partitionOrdered_int_l46
      refine Tot.bind (pa50 d w a i j ⟨ha, e2⟩ (by omega) (by omega) e4) (fun i' hi => ?_)
      refine Tot.bind (pa61 d w a i' j ⟨ha, by omega⟩ (by omega) (by omega) (by omega)) (fun j' hj => ?_)
      refine Tot.ite (fun c => Tot.ret ⟨e1, by dsimp only; omega, by dsimp only; omega⟩) (fun c => ?_)
      have c : ¬ (i' > j') := fun h => c (decide_eq_true h)
      simp (disch := omega) only [wrap64]
      (repeat' (first | (refine Tot.bind (Tot.idx ⟨by ((try simp only [List.length_set, decide_eq_true_eq, Bool.not_eq_true', ge_iff_le, gt_iff_lt] at *); omega), by ((try simp only [List.length_set, decide_eq_true_eq, Bool.not_eq_true', ge_iff_le, gt_iff_lt] at *); omega)⟩) (fun _ _ => ?_)) | (refine Tot.bind (less_tot _ _) (fun _ _ => ?_)) | (refine Tot.ite (fun _ => ?_) (fun _ => ?_)) | (apply Tot.ret))) <;> (first | rfl | (show (_ ∧ _); simp only [List.length_set, decide_eq_true_eq, Bool.not_eq_true', true_and]; omega) | (show (_ = _); simp only [List.length_set]; omega))
    · obtain ⟨w, k⟩ := x
      obtain ⟨e1, e2, e3⟩ := hx
      dsimp only at e1 e2 e3 ⊢
      refine Tot.bind (Tot.idx ⟨by omega, by omega⟩) (fun _ _ => ?_)
      refine Tot.bind (Tot.idx ⟨by omega, by omega⟩) (fun _ _ => ?_)
      refine Tot.bind (Tot.idx ⟨by omega, by omega⟩) (fun _ _ => ?_)
      refine Tot.bind (Tot.idx ⟨by omega, by rw [List.length_set]; omega⟩) (fun _ _ => ?_)
      rw [if_pos (by simp only [List.length_set]; omega)]
      exact Tot.ret ⟨e2, e3, by simp only [List.length_set]; omega⟩
/-! the rest of sorting -/
theorem andu (x : Int) (m : Nat) (hm : m < 2 ^ 32) : 0 ≤ bitsOp .and .u64 x (m : Int) ∧ bitsOp .and .u64 x (m : Int) ≤ (m : Int) := by
  have e : (BitVec.ofInt 64 (m : Int)).toNat = m := by rw [BitVec.toNat_ofInt]; omega
  have h : (BitVec.ofInt 64 x &&& BitVec.ofInt 64 (m : Int)).toNat ≤ m := by
    rw [BitVec.toNat_and, e]; exact Nat.and_le_right
  show 0 ≤ IntKind.wrap .u64 ((BitVec.ofInt 64 x &&& BitVec.ofInt 64 (m : Int)).toNat : Int) ∧ IntKind.wrap .u64 ((BitVec.ofInt 64 x &&& BitVec.ofInt 64 (m : Int)).toNat : Int) ≤ (m : Int)
  have w : ∀ n : Int, 0 ≤ n → n < 2 ^ 33 → IntKind.wrap .u64 n = n := by
    intro n h0 h1
    simp [IntKind.wrap, IntKind.bits, IntKind.signed]; omega
  rw [w _ (by omega) (by omega)]; omega
noncomputable def npOk (k : Nat) : Bool := match slices_nextPowerOfTwo (k : Int) with
  | some m => (m == 16 && k < 16) || (m == 32 && 16 ≤ k) || (m == 64 && 32 ≤ k)
  | none => false
theorem np_all : ((List.range 50).all fun k => decide (k < 8) || npOk k) = true := by kernel_rfl
theorem np_tot (n : Int) (h0 : 8 ≤ n) (h1 : n ≤ 49) : Tot (slices_nextPowerOfTwo n) (fun m => (m = 16 ∧ n < 16) ∨ (m = 32 ∧ 16 ≤ n) ∨ (m = 64 ∧ 32 ≤ n)) := by
  obtain ⟨k, rfl⟩ := Int.eq_ofNat_of_zero_le (show 0 ≤ n by omega)
  have h := List.all_eq_true.1 np_all k (List.mem_range.2 (by omega))
  rw [Bool.or_eq_true] at h
  rcases h with h | h
  · have := of_decide_eq_true h; omega
  · unfold npOk at h
    split at h
    · rename_i m hm
      refine ⟨m, hm, ?_⟩
      simp only [Bool.or_eq_true, Bool.and_eq_true, beq_iff_eq, decide_eq_true_eq] at h
      omega
    · cases h
theorem brk_tot (d : List Int) (a b : Int) (ha : 0 ≤ a) (hl : d.length ≤ 49) (hb : b ≤ (d.length : Int)) (hab : a ≤ b) :
    Tot (slices_breakPatternsOrdered_int d a b) (fun x => x.length = d.length) := by
  unfold slices_breakPatternsOrdered_int
  have q : Int.tdiv (b - a) 4 = (b - a) / 4 := Int.tdiv_eq_ediv_of_nonneg (by omega)
  simp (disch := omega) only [wrap64, q]
  refine Tot.ite (fun c => ?_) (fun _ => Tot.ret rfl)
  have c := of_decide_eq_true c
  refine Tot.bind (np_tot (b - a) (by omega) (by omega)) (fun m hm => ?_)
  refine Tot.bind (P := fun x => x.length = d.length) (Tot.loop (fun x : Int × List Int × Int => x.2.1.length = d.length ∧ a ≤ x.2.2 ∧ x.2.2 ≤ 200) (fun x => (200 - x.2.2).toNat) _ (fun x hx => ?_) ⟨rfl, by dsimp only; omega, by dsimp only; omega⟩) (fun x hx => ?_)
  · obtain ⟨rnd, w, i⟩ := x
    obtain ⟨e1, e2, e3⟩ := hx
    dsimp only at e1 e2 e3 ⊢
    unfold slices_breakPatternsOrdered_int_l12 slices_xorshift_Next
    simp (disch := omega) only [wrap64, q, Option.bind_some]
    refine Tot.ite (fun c' => ?_) (fun _ => Tot.ret e1)
    have c' := of_decide_eq_true c'
    have key : ∀ (o r : Int), 0 ≤ o → o < b - a → Tot (slices_breakPatternsOrdered_int_j29 r d w a (b - a) m i o) (Rnd (fun x : Int × List Int × Int => x.2.1.length = d.length ∧ a ≤ x.2.2 ∧ x.2.2 ≤ 200) (200 - i).toNat (fun x => (200 - x.2.2).toNat) (fun x => x.length = d.length)) := by
      intro o r o0 o1
      unfold slices_breakPatternsOrdered_int_j29
      simp (disch := omega) only [wrap64]
      (repeat' (first | (refine Tot.bind (Tot.idx ⟨by ((try simp only [List.length_set, decide_eq_true_eq, Bool.not_eq_true', ge_iff_le, gt_iff_lt] at *); omega), by ((try simp only [List.length_set, decide_eq_true_eq, Bool.not_eq_true', ge_iff_le, gt_iff_lt] at *); omega)⟩) (fun _ _ => ?_)) | (refine Tot.bind (less_tot _ _) (fun _ _ => ?_)) | (refine Tot.ite (fun _ => ?_) (fun _ => ?_)) | (apply Tot.ret))) <;> (first | rfl | (show (_ ∧ _); simp only [List.length_set, decide_eq_true_eq, Bool.not_eq_true', true_and]; omega) | (show (_ = _); simp only [List.length_set]; omega))
    have hmw : IntKind.wrap .u64 (m - 1) = ((m - 1).toNat : Int) := by
      simp [IntKind.wrap, IntKind.bits, IntKind.signed]; omega
    rw [hmw]
    generalize hx : bitsOp .xor .u64 _ _ = X
    obtain ⟨b0, b1⟩ := andu X (m - 1).toNat (by omega)
    generalize bitsOp .and .u64 X _ = B at b0 b1
    simp (disch := omega) only [wrap64]
    refine Tot.ite (fun c2 => ?_) (fun c2 => ?_)
    · have c2 := of_decide_eq_true c2
      exact key _ _ (by omega) (by omega)
    · have c2 : ¬ (B ≥ b - a) := fun h => c2 (decide_eq_true h)
      exact key _ _ (by omega) (by omega)
  · rw [if_pos hx]; exact Tot.ret hx
theorem pins_tot (d : List Int) (a b : Int) (ha : 0 ≤ a) (hl : d.length ≤ 49) (hb : b ≤ (d.length : Int)) (hab : a < b) :
    Tot (slices_partialInsertionSortOrdered_int d a b) (fun x => x.2.length = d.length) := by
  unfold slices_partialInsertionSortOrdered_int
  simp (disch := omega) only [wrap64]
  have h19 : ∀ i j : Int, a < i → i ≤ b → Tot (loopO (fun x : Int => slices_partialInsertionSortOrdered_int_l19 d d a b x j) i) (fun y => a < y ∧ y ≤ b) := by
    intro i j h1 h2
    refine Tot.loop (fun x => a < x ∧ x ≤ b) (fun x => (b - x).toNat) _ (fun x hx => ?_) ⟨h1, h2⟩
    unfold slices_partialInsertionSortOrdered_int_l19
    refine Tot.ite (fun c => ?_) (fun _ => Tot.ret hx)
    have c := of_decide_eq_true c
    rw [wrap64 (by omega) (by omega), wrap64 (by omega) (by omega)]
    refine Tot.bind (Tot.idx ⟨by omega, by omega⟩) (fun _ _ => Tot.bind (Tot.idx ⟨by omega, by omega⟩) (fun _ _ => Tot.bind (less_tot _ _) (fun _ _ => Tot.ite (fun _ => Tot.ret ⟨⟨by omega, by omega⟩, by dsimp only; omega⟩) (fun _ => Tot.ret hx))))
  refine Tot.bind (P := fun x : (Bool × List Int) ⊕ List Int => match x with | .inl y => y.2.length = d.length | .inr y => y.length = d.length) (Tot.loop (fun x : List Int × Int × Int => x = (d, a + 1, 0)) (fun _ => 0) _ (fun x hx => ?_) rfl) (fun x hx => ?_)
  · subst hx
    dsimp only
    unfold slices_partialInsertionSortOrdered_int_l8
    rw [if_pos (by decide)]
    refine Tot.bind (h19 (a + 1) 0 (by omega) (by omega)) (fun e he => ?_)
    rw [if_pos rfl]
    refine Tot.ite (fun _ => Tot.ret rfl) (fun _ => ?_)
    rw [if_pos (by rw [wrap64 (by omega) (by omega)]; exact decide_eq_true (by omega)), if_pos rfl]
    exact Tot.ret rfl
  · cases x with
    | inl y => exact Tot.ret hx
    | inr y => dsimp only at hx ⊢; rw [if_pos hx]; exact Tot.ret hx
/-- one who sorts a part that is shorter than n -/
def SelfOk (n : Nat) (s : List Int → Int → Int → Int → Option (List Int)) : Prop :=
  ∀ (d : List Int) (a b l : Int), d.length ≤ 49 → 0 ≤ a → a ≤ b → b ≤ (d.length : Int) → b - a < (n : Int) → 0 ≤ l → l ≤ 64 → Tot (s d a b l) (fun x => x.length = d.length)
/-- what a round of pdqsort keeps -/
def PI (L : Nat) (n : Nat) (x : List Int × Int × Int × Int × Bool × Bool) : Prop := x.1.length = L ∧ 0 ≤ x.2.1 ∧ x.2.1 ≤ x.2.2.1 ∧ x.2.2.1 ≤ (L : Int) ∧ x.2.2.1 - x.2.1 ≤ (n : Int) ∧ 0 ≤ x.2.2.2.1 ∧ x.2.2.2.1 ≤ 64
theorem j65_tot {n : Nat} {s : List Int → Int → Int → Int → Option (List Int)} (hs : SelfOk n s) (d w : List Int) (a b l len p : Int) (hL : w.length = d.length) (h0 : d.length ≤ 49) (h1 : 0 ≤ a) (h2 : b ≤ (d.length : Int)) (h3 : b - a ≤ (n : Int)) (hp : a ≤ p ∧ p < b) (hl : 0 ≤ l ∧ l ≤ 64) :
    Tot (slices_pdqsortOrdered_int_j65 s d w a b l len p) (Rnd (PI d.length n) (b - a).toNat (fun x => (x.2.2.1 - x.2.1).toNat) (fun x => x.length = d.length)) := by
  unfold slices_pdqsortOrdered_int_j65
  refine Tot.bind (part_tot w a b p h1 (by omega) (by omega) hp) (fun r hr => ?_)
  obtain ⟨r1, r2, r3⟩ := hr
  rw [wrap64 (n := r.1 + 1) (by omega) (by omega)]
  refine Tot.ite (fun _ => ?_) (fun _ => ?_)
  · refine Tot.bind (hs r.2.2 a r.1 l (by omega) h1 r1 (by omega) (by omega) hl.1 hl.2) (fun r' hr' => ?_)
    refine Tot.ret ⟨⟨?_, ?_, ?_, ?_, ?_, hl⟩, ?_⟩ <;> dsimp only <;> omega
  · refine Tot.bind (hs r.2.2 (r.1 + 1) b l (by omega) (by omega) (by omega) (by omega) (by omega) hl.1 hl.2) (fun r' hr' => ?_)
    refine Tot.ret ⟨⟨?_, ?_, ?_, ?_, ?_, hl⟩, ?_⟩ <;> dsimp only <;> omega
theorem j55_tot {n : Nat} {s : List Int → Int → Int → Int → Option (List Int)} (hs : SelfOk n s) (d w : List Int) (a b l len p : Int) (wb wp : Bool) (hL : w.length = d.length) (h0 : d.length ≤ 49) (h1 : 0 ≤ a) (h2 : b ≤ (d.length : Int)) (h3 : b - a ≤ (n : Int)) (hp : a ≤ p ∧ p < b) (hl : 0 ≤ l ∧ l ≤ 64) :
    Tot (slices_pdqsortOrdered_int_j55 s d w a b l wb wp len p) (Rnd (PI d.length n) (b - a).toNat (fun x => (x.2.2.1 - x.2.1).toNat) (fun x => x.length = d.length)) := by
  unfold slices_pdqsortOrdered_int_j55
  have e := j65_tot hs d w a b l len p hL h0 h1 h2 h3 hp hl
  refine Tot.ite (fun c => ?_) (fun _ => e)
  have c := of_decide_eq_true c
  rw [wrap64 (n := a - 1) (by omega) (by omega)]
  refine Tot.bind (Tot.idx ⟨by omega, by omega⟩) (fun _ _ => Tot.bind (Tot.idx ⟨by omega, by omega⟩) (fun _ _ => Tot.bind (less_tot _ _) (fun _ _ => Tot.ite (fun _ => ?_) (fun _ => e))))
  refine Tot.bind (peq_tot w a b p h1 (by omega) (by omega) hp) (fun r hr => ?_)
  obtain ⟨r1, r2, r3⟩ := hr
  refine Tot.ret ⟨⟨?_, ?_, ?_, ?_, ?_, hl⟩, ?_⟩ <;> dsimp only <;> omega
theorem j45_tot {n : Nat} {s : List Int → Int → Int → Int → Option (List Int)} (hs : SelfOk n s) (d w : List Int) (a b l len p hint : Int) (wb wp : Bool) (hL : w.length = d.length) (h0 : d.length ≤ 49) (h1 : 0 ≤ a) (h2 : b ≤ (d.length : Int)) (h3 : b - a ≤ (n : Int)) (hp : a ≤ p ∧ p < b) (hl : 0 ≤ l ∧ l ≤ 64) :
    Tot (slices_pdqsortOrdered_int_j45 s d w a b l wb wp len p hint) (Rnd (PI d.length n) (b - a).toNat (fun x => (x.2.2.1 - x.2.1).toNat) (fun x => x.length = d.length)) := by
  unfold slices_pdqsortOrdered_int_j45
  have e : ∀ (w : List Int) (wb wp : Bool), w.length = d.length → _ := fun w wb wp hL => j55_tot hs d w a b l len p wb wp hL h0 h1 h2 h3 hp hl
  refine Tot.ite (fun _ => Tot.ite (fun _ => Tot.ite (fun _ => ?_) (fun _ => e _ _ _ hL)) (fun _ => e _ _ _ hL)) (fun _ => e _ _ _ hL)
  refine Tot.bind (pins_tot w a b h1 (by omega) (by omega) (by omega)) (fun r hr => ?_)
  exact Tot.ite (fun _ => by rw [if_pos (by omega)]; exact Tot.ret (by show _ = _; omega)) (fun _ => e _ _ _ (by omega))
theorem j33_tot {n : Nat} {s : List Int → Int → Int → Int → Option (List Int)} (hs : SelfOk n s) (d w : List Int) (a b l len : Int) (wb wp : Bool) (hL : w.length = d.length) (h0 : d.length ≤ 49) (h1 : 0 ≤ a) (h2 : b ≤ (d.length : Int)) (h3 : b - a ≤ (n : Int)) (hp : a + 4 ≤ b) (hl : 0 ≤ l ∧ l ≤ 64) :
    Tot (slices_pdqsortOrdered_int_j33 s d w a b l wb wp len) (Rnd (PI d.length n) (b - a).toNat (fun x => (x.2.2.1 - x.2.1).toNat) (fun x => x.length = d.length)) := by
  unfold slices_pdqsortOrdered_int_j33
  refine Tot.bind (piv_tot w a b h1 (by omega) (by omega) hp) (fun r hr => ?_)
  obtain ⟨r1, r2, r3, r4⟩ := hr
  refine Tot.ite (fun _ => ?_) (fun _ => j45_tot hs d w a b l len r.1 r.2 wb wp hL h0 h1 h2 h3 ⟨r1, r2⟩ hl)
  simp (disch := omega) only [wrap64]
  refine Tot.bind (rev_tot w a b h1 (by omega) (by omega) (by omega) (by omega)) (fun w' hw => ?_)
  exact j45_tot hs d w' a b l len _ 1 wb wp (by omega) h0 h1 h2 h3 (by omega) hl
theorem l5_tot {n : Nat} {s : List Int → Int → Int → Int → Option (List Int)} (hs : SelfOk n s) (d : List Int) (h0 : d.length ≤ 49) (x : List Int × Int × Int × Int × Bool × Bool) (hx : PI d.length n x) :
    Tot (slices_pdqsortOrdered_int_l5 s d x.1 x.2.1 x.2.2.1 x.2.2.2.1 x.2.2.2.2.1 x.2.2.2.2.2) (Rnd (PI d.length n) (x.2.2.1 - x.2.1).toNat (fun x => (x.2.2.1 - x.2.1).toNat) (fun x => x.length = d.length)) := by
  obtain ⟨w, a, b, l, wb, wp⟩ := x
  obtain ⟨e1, e2, e3, e4, e5, e6, e7⟩ := hx
  dsimp only at e1 e2 e3 e4 e5 e6 e7 ⊢
  unfold slices_pdqsortOrdered_int_l5
  rw [wrap64 (n := b - a) (by omega) (by omega)]
  refine Tot.ite (fun c => ?_) (fun c => ?_)
  · refine Tot.bind (ins_tot w a b e2 (by omega) (by omega) (by omega)) (fun r hr => ?_)
    rw [if_pos (by omega)]
    exact Tot.ret (by show _ = _; omega)
  · have c : ¬ (b - a ≤ 12) := fun h => c (decide_eq_true h)
    refine Tot.ite (fun _ => ?_) (fun c2 => ?_)
    · refine Tot.bind (heap_tot w a b e2 (by omega) (by omega) e3) (fun r hr => ?_)
      rw [if_pos (by omega)]
      exact Tot.ret (by show _ = _; omega)
    · have c2 : l ≠ 0 := fun h => c2 (by rw [h]; rfl)
      refine Tot.ite (fun _ => ?_) (fun _ => j33_tot hs d w a b l _ wb wp e1 h0 e2 e4 e5 (by omega) ⟨e6, e7⟩)
      refine Tot.bind (brk_tot w a b e2 (by omega) (by omega) e3) (fun r hr => ?_)
      rw [wrap64 (n := l - 1) (by omega) (by omega)]
      exact j33_tot hs d r a b (l - 1) _ wb wp (by omega) h0 e2 e4 e5 (by omega) (by omega)
theorem pdq_tot : ∀ n : Nat, SelfOk n (slices_pdqsortOrdered_int n)
  | 0 => fun d a b l h0 h1 h2 h3 h4 h5 h6 => by omega
  | n + 1 => fun d a b l h0 h1 h2 h3 h4 h5 h6 => by
    show Tot (slices_pdqsortOrdered_int_b (slices_pdqsortOrdered_int n) d a b l) _
    unfold slices_pdqsortOrdered_int_b
    refine Tot.bind (P := fun x => x.length = d.length) (Tot.loop (PI d.length n) (fun x => (x.2.2.1 - x.2.1).toNat) _ (fun x hx => l5_tot (pdq_tot n) d h0 x hx) ⟨rfl, h1, h2, h3, by dsimp only; omega, h5, h6⟩) (fun x hx => Tot.ret hx)
def lenOk (k : Nat) : Prop := Tot (math_bits_Len (IntKind.wrap .u64 (k : Int))) (fun b => 0 ≤ b ∧ b ≤ 64)
theorem len_all : ((List.range 50).all fun k => match math_bits_Len (IntKind.wrap .u64 (k : Int)) with | some b => decide (0 ≤ b) && decide (b ≤ 64) | none => false) = true := by kernel_rfl
/-- any numbers, not many, are sorted to as many -/
theorem sort_tot (d : List Int) (h : d.length ≤ 49) : Tot (slices_Sort_Lint d) (fun x => x.length = d.length) := by
  unfold slices_Sort_Lint
  have hk := List.all_eq_true.1 len_all d.length (List.mem_range.2 (by omega))
  split at hk
  · rename_i b hb
    rw [hb, Option.bind_some]
    rw [Bool.and_eq_true, decide_eq_true_eq, decide_eq_true_eq] at hk
    exact Tot.bind (pdq_tot 64 d 0 (d.length : Int) b h (by omega) (by omega) (by omega) (by omega) hk.1 hk.2) (fun x hx => Tot.ret hx)
  · cases hk
/-! ### whatever bytes come -/
/-- the word at a place -/
def wd (s : List Int) (o : Nat) : Int := (s[o]?).getD 0 + (s[o + 1]?).getD 0 * 256
theorem byte_in {s : List Int} (hw : ∀ c ∈ s, wfI .u8 c) (o : Nat) : 0 ≤ (s[o]?).getD 0 ∧ (s[o]?).getD 0 ≤ 255 := by
  cases h : s[o]? with
  | none => simp
  | some c => exact wfI_u8.1 (hw c (List.mem_of_getElem? h))
theorem wd_in {s : List Int} (hw : ∀ c ∈ s, wfI .u8 c) (o : Nat) : 0 ≤ wd s o ∧ wd s o ≤ 65535 := by
  have h1 := byte_in hw o; have h2 := byte_in hw (o + 1)
  unfold wd; omega
theorem word_at {B : List Int} (hw : ∀ c ∈ B, wfI .u8 c) (k : Nat) (h : k + 2 ≤ B.length) : index_Source_Word ⟨B.drop k, 0⟩ = some (wd B k, ⟨B.drop (k + 2), 0⟩) := by
  have e : B.drop k = B[k]'(by omega) :: B[k + 1]'(by omega) :: B.drop (k + 2) := by
    rw [List.drop_eq_getElem_cons (by omega), List.drop_eq_getElem_cons (i := k + 1) (by omega)]
  rw [e, word_cons _ _ _ _ (hw _ (List.getElem_mem _)) (hw _ (List.getElem_mem _))]
  unfold wd
  rw [List.getElem?_eq_getElem (by omega), List.getElem?_eq_getElem (by omega)]; rfl
theorem wd_cut (s : List Int) (a n k : Nat) (h : k + 2 ≤ n) : wd ((s.drop a).take n) k = wd s (a + k) := by
  unfold wd
  rw [List.getElem?_take_of_lt (by omega), List.getElem?_take_of_lt (by omega), List.getElem?_drop, List.getElem?_drop]
  rfl
structure HdOk (h : Header) : Prop where
  last : 0 ≤ h.last ∧ h.last ≤ 65535
  pages : 0 ≤ h.pages ∧ h.pages ≤ 65535
  relocs : 0 ≤ h.relocs ∧ h.relocs ≤ 65535
  paras : 0 ≤ h.paras ∧ h.paras ≤ 65535
  min : 0 ≤ h.min ∧ h.min ≤ 65535
  ss : 0 ≤ h.ss ∧ h.ss ≤ 65535
  sp : 0 ≤ h.sp ∧ h.sp ≤ 65535
  ip : 0 ≤ h.ip ∧ h.ip ≤ 65535
  cs : 0 ≤ h.cs_ ∧ h.cs_ ≤ 65535
  table : 0 ≤ h.table ∧ h.table ≤ 65535
theorem first_any {s : List Int} (hw : ∀ c ∈ s, wfI .u8 c) (hl : s.length ≤ 1000) : Tot (mz_first s) (fun r => (r.2 = 2 ∨ r.2 = 440) ∨ (r.2 = 0 ∧ r.1.relocs = wd s 6 ∧ r.1.paras = wd s 8 ∧ r.1.table = wd s 24 ∧ HdOk r.1)) := by
  unfold mz_first
  refine Tot.ite (fun _ => Tot.ret (.inl (.inl rfl))) (fun c => ?_)
  have c : ¬ ((s.length : Int) < 28) := fun h => c (decide_eq_true h)
  refine Tot.bind (Tot.idx ⟨by omega, by omega⟩) (fun _ _ => Tot.ite (fun _ => Tot.ret (.inl (.inr rfl))) (fun _ => ?_))
  refine Tot.bind (Tot.idx ⟨by omega, by omega⟩) (fun _ _ => Tot.ite (fun _ => Tot.ret (.inl (.inr rfl))) (fun _ => ?_))
  rw [cutL_eq (by omega) (by omega) (by omega), Option.bind_some]
  have hB : ((s.drop (2 : Int).toNat).take ((28 : Int).toNat - (2 : Int).toNat)) = (s.drop 2).take 26 := rfl
  rw [hB]
  have hBl : ((s.drop 2).take 26).length = 26 := by rw [List.length_take, List.length_drop]; omega
  have hBw : ∀ c ∈ (s.drop 2).take 26, wfI .u8 c := fun c hc => hw c (List.mem_of_mem_drop (List.mem_of_mem_take hc))
  have e6 := wd_cut s 2 26 4 (by omega); have e8 := wd_cut s 2 26 6 (by omega); have e24 := wd_cut s 2 26 22 (by omega)
  generalize (s.drop 2).take 26 = B at hBl hBw e6 e8 e24
  rw [from_spec B (by omega), Option.bind_some, show (⟨B, 0⟩ : Source) = ⟨B.drop 0, 0⟩ from rfl]
  rw [word_at hBw 0 (by omega), Option.bind_some, word_at hBw 2 (by omega), Option.bind_some, word_at hBw 4 (by omega), Option.bind_some, word_at hBw 6 (by omega), Option.bind_some, word_at hBw 8 (by omega), Option.bind_some, word_at hBw 10 (by omega), Option.bind_some,
    word_at hBw 12 (by omega), Option.bind_some, word_at hBw 14 (by omega), Option.bind_some, word_at hBw 16 (by omega), Option.bind_some, word_at hBw 18 (by omega), Option.bind_some, word_at hBw 20 (by omega), Option.bind_some, word_at hBw 22 (by omega), Option.bind_some]
  exact Tot.ret (.inr ⟨rfl, e6, e8, e24, ⟨wd_in hBw _, wd_in hBw _, wd_in hBw _, wd_in hBw _, wd_in hBw _, wd_in hBw _, wd_in hBw _, wd_in hBw _, wd_in hBw _, wd_in hBw _⟩⟩)
theorem size_any {h : Header} (k : HdOk h) : Tot (mz_size h) (fun r => -1000 ≤ r.1 ∧ r.1 ≤ 40000000 ∧ (r.2 = true → h.paras * 16 ≤ r.1)) := by
  obtain ⟨k1, k2, k3, k4, _, _, _, _, _, _⟩ := k
  unfold mz_size
  simp (disch := omega) only [wrap64]
  refine Tot.ite (fun c => ?_) (fun c => ?_)
  · have c := of_decide_eq_true c
    refine Tot.ite (fun _ => Tot.ret ⟨by dsimp only; omega, by dsimp only; omega, fun h => of_decide_eq_true h⟩) (fun _ => Tot.ret ⟨by dsimp only; omega, by dsimp only; omega, fun h => by cases h⟩)
  · refine Tot.ite (fun _ => Tot.ret ⟨by dsimp only; omega, by dsimp only; omega, fun h => of_decide_eq_true h⟩) (fun _ => Tot.ret ⟨by dsimp only; omega, by dsimp only; omega, fun h => by cases h⟩)
theorem lin_tot (a b : Int) : Tot (bits_Linear a b) (fun _ => True) := by
  unfold bits_Linear; exact ⟨_, rfl, trivial⟩
theorem sites_any {s : List Int} {h : Header} (hw : ∀ c ∈ s, wfI .u8 c) (hl : s.length ≤ 1000) (k : HdOk h) (n : Int) (hc : h.table + 4 * h.relocs ≤ (s.length : Int) → h.table + 4 * h.relocs ≤ h.paras * 16 → h.relocs ≤ 49) :
    Tot (mz_sites s h n) (fun r => (r.2 = 2 ∨ r.2 = 3 ∨ r.2 = 8) ∨ (r.2 = 0 ∧ (r.1.length : Int) = h.relocs ∧ h.table + 4 * h.relocs ≤ h.paras * 16 ∧ h.relocs ≤ 49)) := by
  obtain ⟨k1, k2, k3, k4, _, _, _, _, _, k10⟩ := k
  unfold mz_sites
  simp (disch := omega) only [wrap64]
  refine Tot.ite (fun _ => Tot.ret (.inl (.inr (.inr rfl)))) (fun _ => ?_)
  refine Tot.ite (fun _ => Tot.ret (.inl (.inl rfl))) (fun c1 => ?_)
  refine Tot.ite (fun _ => Tot.ret (.inl (.inl rfl))) (fun c2 => ?_)
  have c1 : ¬ ((s.length : Int) < h.table + 4 * h.relocs) := fun h => c1 (decide_eq_true h)
  have c2 : ¬ (h.table + 4 * h.relocs > h.paras * 16) := fun h => c2 (decide_eq_true h)
  have h49 := hc (by omega) (by omega)
  refine Tot.bind (P := fun x => (x.length : Int) = h.relocs) (Tot.loop (fun x : List Int × Int => (x.1.length : Int) = x.2 ∧ x.2 ≤ h.relocs) (fun x => (h.relocs - x.2).toNat) _ (fun x hx => ?_) ⟨rfl, k3.1⟩) (fun x hx => ?_)
  · obtain ⟨o, i⟩ := x
    obtain ⟨e1, e2⟩ := hx
    dsimp only at e1 e2 ⊢
    unfold mz_sites_l26
    refine Tot.ite (fun c => ?_) (fun c => ?_)
    · have c := of_decide_eq_true c
      simp (disch := omega) only [wrap64]
      rw [cutL_eq (by omega) (by omega) (by omega), Option.bind_some]
      have hBl : ((s.drop (h.table + 4 * i).toNat).take ((h.table + 4 * i + 4).toNat - (h.table + 4 * i).toNat)).length = 4 := by rw [List.length_take, List.length_drop]; omega
      have hBw : ∀ c ∈ (s.drop (h.table + 4 * i).toNat).take ((h.table + 4 * i + 4).toNat - (h.table + 4 * i).toNat), wfI .u8 c := fun c hc => hw c (List.mem_of_mem_drop (List.mem_of_mem_take hc))
      generalize (s.drop (h.table + 4 * i).toNat).take ((h.table + 4 * i + 4).toNat - (h.table + 4 * i).toNat) = B at hBl hBw
      rw [from_spec B (by omega), Option.bind_some, show (⟨B, 0⟩ : Source) = ⟨B.drop 0, 0⟩ from rfl, word_at hBw 0 (by omega), Option.bind_some, word_at hBw 2 (by omega), Option.bind_some]
      refine Tot.bind (lin_tot _ _) (fun v _ => ?_)
      rw [grow_eq (by simp only [List.length_cons, List.length_nil]; omega) (by simp only [List.length_cons, List.length_nil]; omega), Option.bind_some]
      exact Tot.ret ⟨⟨by simp only [List.length_append, List.length_cons, List.length_nil]; omega, by dsimp only; omega⟩, by dsimp only; omega⟩
    · have c : ¬ (i < h.relocs) := fun h => c (decide_eq_true h)
      exact Tot.ret (by show (o.length : Int) = _; omega)
  · refine Tot.bind (sort_tot x (by omega)) (fun y hy => ?_)
    refine Tot.bind (P := fun e : (List Int × Int) ⊕ Unit => match e with | .inl z => z.2 = 3 | .inr _ => True) (Tot.loop (fun i : Int => 0 ≤ i ∧ i ≤ (y.length : Int)) (fun i => ((y.length : Int) - i).toNat) _ (fun i hi => ?_) ⟨by omega, by omega⟩) (fun e he => ?_)
    · unfold mz_sites_l49
      refine Tot.ite (fun c => ?_) (fun _ => Tot.ret trivial)
      have c := of_decide_eq_true c
      rw [wrap64 (n := i - 1) (by omega) (by omega), wrap64 (n := i + 1) (by omega) (by omega)]
      refine Tot.bind (Tot.idx ⟨by omega, by omega⟩) (fun _ _ => Tot.ite (fun _ => Tot.ret rfl) (fun _ => Tot.ite (fun c' => ?_) (fun _ => Tot.ret ⟨⟨by omega, by omega⟩, by dsimp only; omega⟩)))
      have c' := of_decide_eq_true c'
      refine Tot.bind (Tot.idx ⟨by omega, by omega⟩) (fun _ _ => Tot.ite (fun _ => Tot.ret rfl) (fun _ => Tot.ret ⟨⟨by omega, by omega⟩, by dsimp only; omega⟩))
    · cases e with
      | inl z => exact Tot.ret (.inl (.inr (.inl he)))
      | inr z => exact Tot.ret (.inr ⟨rfl, by dsimp only; omega, by omega, h49⟩)
/-- how many places there may be in so many bytes -/
theorem pw_len (n : Int) : ∀ (l : List Int) (lo : Int), (∀ v ∈ l, lo ≤ v ∧ v + 2 ≤ n) → l.Pairwise (fun a b => a + 2 ≤ b) → l ≠ [] → lo + 2 * (l.length : Int) ≤ n
  | [], _, _, _, h => by simp at h
  | [a], lo, h, _, _ => by have := h a (by simp); simp; omega
  | a :: b :: l, lo, h, hp, _ => by
    have ha := h a (by simp)
    have h1 := (List.pairwise_cons.1 hp).1
    have := pw_len n (b :: l) (lo + 2) (fun v hv => ⟨by have := h1 v hv; omega, (h v (List.mem_cons_of_mem _ hv)).2⟩) (List.pairwise_cons.1 hp).2 (by simp)
    simp only [List.length_cons] at this ⊢; omega
theorem may_tot (y : Image) (h1 : y.Bytes.length ≤ 700) (h2 : y.Relocs.length ≤ 49) (h3 : 0 ≤ y.Min) (h4 : y.Min ≤ 65535) :
    Tot (mz_May y) (fun r => r = true → y.Min ≤ 40960 - ((y.Bytes.length : Int) + 15) / 16 ∧ (∀ r ∈ y.Relocs, 0 ≤ r ∧ r + 2 ≤ (y.Bytes.length : Int)) ∧ y.Relocs.Pairwise (fun a b => a + 2 ≤ b)) := by
  unfold mz_May
  have no : ∀ Q : Prop, Tot (some false) (fun r : Bool => r = true → Q) := fun Q => Tot.ret (fun h => by cases h)
  refine Tot.ite (fun _ => no _) (fun _ => Tot.ite (fun _ => no _) (fun _ => ?_))
  obtain ⟨p, hp, p0⟩ := paras_in (k := (y.Bytes.length : Int)) (by omega) (by omega)
  rw [hp, Option.bind_some, wrap64 (n := 40960 - p) (by omega) (by omega)]
  refine Tot.ite (fun _ => no _) (fun c => Tot.ite (fun _ => no _) (fun _ => ?_))
  have c : ¬ (y.Min > 40960 - p) := fun h => c (decide_eq_true h)
  refine Tot.bind (P := fun e : Bool ⊕ Unit => match e with | .inl b => b = false | .inr _ => (∀ r ∈ y.Relocs, 0 ≤ r ∧ r + 2 ≤ (y.Bytes.length : Int)) ∧ y.Relocs.Pairwise (fun a b => a + 2 ≤ b))
    (Tot.loop (fun i : Int => ∃ xs ys, y.Relocs = xs ++ ys ∧ (xs.length : Int) = i ∧ (∀ r ∈ xs, 0 ≤ r ∧ r + 2 ≤ (y.Bytes.length : Int)) ∧ xs.Pairwise (fun a b => a + 2 ≤ b)) (fun i => ((y.Relocs.length : Int) - i).toNat) _ (fun i hi => ?_) ⟨[], y.Relocs, rfl, rfl, by simp, by simp⟩) (fun e he => ?_)
  · obtain ⟨xs, ys, e, rfl, hx, hw⟩ := hi
    unfold mz_May_l14
    cases ys with
    | nil =>
      rw [List.append_nil] at e
      rw [if_neg (by rw [e]; simp)]
      exact Tot.ret (by rw [e]; exact ⟨hx, hw⟩)
    | cons v ys =>
      have hl := len_lt e
      rw [if_pos (by simpa using hl), idx_mid e, Option.bind_some, wrap64 (n := (y.Bytes.length : Int) - 2) (by omega) (by omega), len_snoc xs v (by omega)]
      refine Tot.ite (fun _ => Tot.ret rfl) (fun c1 => Tot.ite (fun _ => Tot.ret rfl) (fun c2 => ?_))
      have c1 : ¬ (v < 0) := fun h => c1 (decide_eq_true h)
      have c2 : ¬ (v > (y.Bytes.length : Int) - 2) := fun h => c2 (decide_eq_true h)
      have fin : (∀ a ∈ xs, a + 2 ≤ v) → Rnd (β := Bool ⊕ Unit) (fun i : Int => ∃ xs ys, y.Relocs = xs ++ ys ∧ (xs.length : Int) = i ∧ (∀ r ∈ xs, 0 ≤ r ∧ r + 2 ≤ (y.Bytes.length : Int)) ∧ xs.Pairwise (fun a b => a + 2 ≤ b)) ((y.Relocs.length : Int) - (xs.length : Int)).toNat (fun i => ((y.Relocs.length : Int) - i).toNat) (fun e : Bool ⊕ Unit => match e with | .inl b => b = false | .inr _ => (∀ r ∈ y.Relocs, 0 ≤ r ∧ r + 2 ≤ (y.Bytes.length : Int)) ∧ y.Relocs.Pairwise (fun a b => a + 2 ≤ b)) (.next ((xs ++ [v]).length : Int)) := by
        intro ha
        refine ⟨⟨xs ++ [v], ys, by rw [e, List.append_assoc]; rfl, rfl, ?_, ?_⟩, by simp only [List.length_append, List.length_cons, List.length_nil]; omega⟩
        · intro r hr
          rcases List.mem_append.1 hr with hr | hr
          · exact hx r hr
          · simp only [List.mem_singleton] at hr; omega
        · refine List.pairwise_append.2 ⟨hw, List.pairwise_singleton _ _, ?_⟩
          intro a haa b hb
          simp only [List.mem_singleton] at hb
          have := ha a haa; omega
      refine Tot.ite (fun c3 => ?_) (fun c3 => ?_)
      · have c3 := of_decide_eq_true c3
        obtain ⟨u, hu, zs, hz⟩ := prev_in e (by omega)
        have hxs : xs = zs ++ [u] := by
          have : xs ++ v :: ys = (zs ++ [u]) ++ v :: ys := by rw [← e, hz]; simp
          exact List.append_cancel_right this
        have hu1 := hx u (by rw [hxs]; simp)
        rw [wrap64 (n := (xs.length : Int) - 1) (by omega) (by omega), hu, Option.bind_some, wrap64 (n := v - u) (by omega) (by omega)]
        refine Tot.ite (fun _ => Tot.ret rfl) (fun c4 => Tot.ret (fin ?_))
        have c4 : ¬ (v - u < 2) := fun h => c4 (decide_eq_true h)
        intro a ha
        rw [hxs] at ha
        rcases List.mem_append.1 ha with ha | ha
        · rw [hxs] at hw
          have := (List.pairwise_append.1 hw).2.2 a ha u (by simp); omega
        · simp only [List.mem_singleton] at ha; omega
      · have c3 : ¬ ((xs.length : Int) > 0) := fun h => c3 (decide_eq_true h)
        refine Tot.ret (fin ?_)
        have : xs = [] := List.length_eq_zero_iff.1 (by omega)
        rw [this]; simp
  · cases e with
    | inl b => exact Tot.ret (fun h => by rw [he] at h; cases h)
    | inr _ => exact Tot.ret (fun _ => ⟨by omega, he⟩)
/-- what any bytes are read as -/
theorem read_any {s : List Int} (hw : ∀ c ∈ s, wfI .u8 c) (hl : s.length ≤ 700) (hc : s.length ≤ 80 ∨ wd s 6 ≤ 6 ∨ (wd s 24 = 28 ∧ wd s 8 ≤ 4)) :
    Tot (mz_Read s) (fun r => ((r.2 = 2 ∨ r.2 = 440 ∨ r.2 = 3 ∨ r.2 = 8) ∧ r.1.Bytes = [] ∧ r.1.Relocs = []) ∨ (r.2 = 0 ∧ Ok r.1 ∧ r.1.Bytes.length ≤ s.length)) := by
  unfold mz_Read
  refine Tot.bind (first_any hw (by omega)) (fun r1 h1 => ?_)
  refine Tot.ite (fun c => ?_) (fun c => ?_)
  · refine Tot.ret (.inl ⟨?_, rfl, rfl⟩)
    rcases h1 with h | h
    · rcases h with h | h
      · exact .inl h
      · exact .inr (.inl h)
    · rw [h.1] at c; cases c
  rcases h1 with h | ⟨_, e6, e8, e24, k⟩
  · exact absurd (by rcases h with h | h <;> rw [h] <;> rfl) c
  have kk := k
  obtain ⟨k1, k2, k3, k4, k5, k6, k7, k8, k9, k10⟩ := kk
  refine Tot.bind (size_any k) (fun r2 h2 => ?_)
  obtain ⟨n, ok⟩ := r2
  obtain ⟨n0, n1, n2⟩ := h2
  dsimp only at n0 n1 n2 ⊢
  refine Tot.ite (fun _ => Tot.ret (.inl ⟨.inr (.inr (.inl rfl)), rfl, rfl⟩)) (fun c1 => ?_)
  have n2 := n2 (by simpa using c1)
  simp (disch := omega) only [wrap64]
  refine Tot.ite (fun _ => Tot.ret (.inl ⟨.inr (.inr (.inl rfl)), rfl, rfl⟩)) (fun c2 => ?_)
  refine Tot.ite (fun _ => Tot.ret (.inl ⟨.inl rfl, rfl, rfl⟩)) (fun c3 => ?_)
  have c2 : ¬ (r1.1.paras * 16 < 28) := fun h => c2 (decide_eq_true h)
  have c3 : ¬ ((s.length : Int) < n) := fun h => c3 (decide_eq_true h)
  refine Tot.bind (sites_any hw (by omega) k (n - r1.1.paras * 16) (fun g1 g2 => by omega)) (fun r3 h3 => ?_)
  refine Tot.ite (fun c4 => ?_) (fun c4 => ?_)
  · refine Tot.ret (.inl ⟨?_, rfl, rfl⟩)
    rcases h3 with h | h
    · rcases h with h | h | h
      · exact .inl h
      · exact .inr (.inr (.inl h))
      · exact .inr (.inr (.inr h))
    · rw [h.1] at c4; cases c4
  rcases h3 with h | ⟨_, g1, g2, g3⟩
  · exact absurd (by rcases h with h | h | h <;> rw [h] <;> rfl) c4
  rw [cutL_eq (by omega) (by omega) (by omega), Option.bind_some]
  have hBl : (((s.drop (r1.1.paras * 16).toNat).take (n.toNat - (r1.1.paras * 16).toNat)).length : Int) = n - r1.1.paras * 16 := by rw [List.length_take, List.length_drop]; omega
  have hBw : ∀ c ∈ (s.drop (r1.1.paras * 16).toNat).take (n.toNat - (r1.1.paras * 16).toNat), wfI .u8 c := fun c hc => hw c (List.mem_of_mem_drop (List.mem_of_mem_take hc))
  generalize (s.drop (r1.1.paras * 16).toNat).take (n.toNat - (r1.1.paras * 16).toNat) = B at hBl hBw
  have hcl : slices_Clone_Lbyte B = some B := by
    unfold slices_Clone_Lbyte
    rw [grow_eq (by simp only [List.length_nil]; omega) (by simp only [List.length_nil]; omega)]; rfl
  rw [hcl, Option.bind_some]
  refine Tot.bind (may_tot _ (by dsimp only; omega) (by dsimp only; omega) (by dsimp only; omega) (by dsimp only; omega)) (fun m hm => ?_)
  refine Tot.ite (fun _ => Tot.ret (.inl ⟨.inr (.inr (.inr rfl)), rfl, rfl⟩)) (fun c5 => ?_)
  obtain ⟨m1, m2, m3⟩ := hm (by simpa using c5)
  dsimp only at m1 m2 m3
  have hr : (r3.1.length : Int) ≤ 12 := by
    by_cases e0 : r3.1 = []
    · rw [e0]; simp
    · have := pw_len (B.length : Int) r3.1 0 m2 m3 e0
      omega
  exact Tot.ret (.inr ⟨rfl, ⟨hBw, by dsimp only; omega, by dsimp only; omega, m2, m3, by dsimp only; omega, m1, wfI_u16.2 k9, wfI_u16.2 k8, wfI_u16.2 k6, wfI_u16.2 k7⟩, by dsimp only; omega⟩)
theorem awk : hansomlaw44_awake = some true := rfl
theorem j14_true {s : List Int} (hw : ∀ c ∈ s, wfI .u8 c) (hl : s.length ≤ 700) (hc : s.length ≤ 80 ∨ wd s 6 ≤ 6 ∨ (wd s 24 = 28 ∧ wd s 8 ≤ 4)) : hansomlaw44_MzAny_j14 s = some true := by
  unfold hansomlaw44_MzAny_j14
  obtain ⟨⟨y, e⟩, hy, hr⟩ := read_any hw hl hc
  rw [hy, Option.bind_some]
  rcases hr with ⟨he, hb, hq⟩ | ⟨he, ok, hle⟩
  · dsimp only at he hb hq ⊢
    rw [if_pos (by rcases he with h | h | h | h <;> rw [h] <;> rfl), awk, Option.bind_some, if_pos rfl, hb, hq, if_pos (by rfl)]
    rcases he with h | h | h | h <;> subst h <;> rfl
  · dsimp only at he ok hle ⊢
    subst he
    have hrd := read_ok ok (ents y) (ents_perm y) (ents_in ok) [] (by simp)
    rw [List.append_nil] at hrd
    rw [if_neg (by decide), write_ok ok, Option.bind_some, hrd, Option.bind_some, awk, Option.bind_some, if_pos rfl, may_ok ok, Option.bind_some, if_pos rfl, if_pos (by rfl), if_pos (by rfl), same_ok y ok, Option.bind_some, if_pos rfl]
    simpa using hle
end Go.Es.Mza
