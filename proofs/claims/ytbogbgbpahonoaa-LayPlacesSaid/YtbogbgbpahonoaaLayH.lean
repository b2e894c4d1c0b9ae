/- The order of segments, and where they stand: in plain Lean. No condition. -/
import Derived.Test.YtbogbgbpahonoaaLayP
set_option linter.unusedVariables false
set_option linter.unusedSimpArgs false
set_option maxHeartbeats 1000000
namespace Go.Es.Lay

theorem index_spec (s : List Int) (v : Int) (h : s.length ≤ 2 ^ 40) : ∃ r, slices_Index_Lint s v = some r ∧ (r ≥ 0 ↔ v ∈ s) := by
  unfold slices_Index_Lint
  obtain ⟨b, h1, h2⟩ := loop_rule (f := fun x : Int => slices_Index_Lint_l6 s v (s.length : Int) x) (fun i => 0 ≤ i ∧ i ≤ s.length ∧ v ∉ s.take i.toNat) (fun i => (s.length - i).toNat)
    (fun r => (∃ i, r = .inl i ∧ 0 ≤ i ∧ v ∈ s) ∨ (r = .inr () ∧ v ∉ s)) (fun i hi => by
      obtain ⟨h0, h1, h2⟩ := hi
      unfold slices_Index_Lint_l6
      by_cases hi : i < (s.length : Int)
      · have hlt : i.toNat < s.length := by omega
        rw [idx_eq h0 hi]
        by_cases hv : v = s[i.toNat]'hlt
        · right
          refine ⟨.inl i, by simp [hi, hv], .inl ⟨i, rfl, h0, ?_⟩⟩
          rw [hv]; exact List.getElem_mem hlt
        · left
          have w1 : IntKind.wrap .i64 (i + 1) = i + 1 := wrap64 (by omega) (by omega)
          refine ⟨i + 1, by simp [hi, hv, w1], ⟨by omega, by omega, ?_⟩, by omega⟩
          have e : (i + 1).toNat = i.toNat + 1 := by omega
          intro hm
          rw [e, List.take_add_one, List.getElem?_eq_getElem hlt] at hm
          rcases List.mem_append.1 hm with hm | hm
          · exact h2 hm
          · simp at hm; exact hv hm
      · right
        have : i.toNat = s.length := by omega
        rw [this, List.take_length] at h2
        exact ⟨.inr (), by simp [hi], .inr ⟨rfl, h2⟩⟩) (x := (0 : Int)) ⟨by simp, by simp, by simp⟩
  rw [h1, Option.bind_some]
  rcases h2 with ⟨i, rfl, h3, h4⟩ | ⟨rfl, h3⟩
  · exact ⟨i, rfl, by simp [h3, h4]⟩
  · exact ⟨-1, rfl, by simp [h3]⟩

theorem contains_spec (s : List Int) (v : Int) (h : s.length ≤ 2 ^ 40) : slices_Contains_Lint s v = some (decide (v ∈ s)) := by
  unfold slices_Contains_Lint
  obtain ⟨r, h1, h2⟩ := index_spec s v h
  rw [h1, Option.bind_some]
  simp [h2]

/-- The numbers of those of a class, below n. -/
def ofClass (l : List Comb) (c : List UInt8) (n : Nat) : List Int := ((List.range n).filter fun k => (l[k]?.map Comb.Class) == some c).map Int.ofNat

theorem ofClass_succ (l : List Comb) (c : List UInt8) (n : Nat) (h : n < l.length) : ofClass l c (n + 1) = ofClass l c n ++ (if l[n].Class = c then [(n : Int)] else []) := by
  unfold ofClass
  rw [List.range_succ, List.filter_append, List.map_append]
  congr 1
  by_cases hc : l[n].Class = c <;> simp [List.getElem?_eq_getElem h, hc]

theorem mem_ofClass {l : List Comb} {c : List UInt8} {n : Nat} {v : Int} : v ∈ ofClass l c n ↔ ∃ k, k < n ∧ (l[k]?.map Comb.Class) = some c ∧ v = k := by
  unfold ofClass
  simp only [List.mem_map, List.mem_filter, List.mem_range, beq_iff_eq]
  constructor
  · rintro ⟨k, ⟨h1, h2⟩, rfl⟩; exact ⟨k, h1, h2, rfl⟩
  · rintro ⟨k, h1, h2, rfl⟩; exact ⟨k, ⟨h1, h2⟩, rfl⟩

theorem ofClass_length (l : List Comb) (c : List UInt8) (n : Nat) : (ofClass l c n).length ≤ n := by
  unfold ofClass
  rw [List.length_map]
  exact Nat.le_trans (List.length_filter_le _ _) (by simp)

/-- A round: those of the class of number i, if they are not there yet. -/
theorem round_spec (l : List Comb) (i : Nat) (out : List Int) (a b : Int) (hi : i < l.length) (hl : l.length ≤ 1000) (ho : out.length ≤ 1000)
    (hall : (∀ v ∈ ofClass l l[i].Class l.length, v ∈ out) ∨ (∀ v ∈ ofClass l l[i].Class l.length, v ∉ out)) :
    loopO (fun x : List Int × Int => lay_Order_l22 x.1 l i a b (l.length : Int) x.2) (out, 0) =
      some (if (i : Int) ∈ out then out else out ++ ofClass l l[i].Class l.length) := by
  have hii : (i : Int) ∈ ofClass l l[i].Class l.length := mem_ofClass.2 ⟨i, hi, by simp [List.getElem?_eq_getElem hi], rfl⟩
  have hmono : ∀ {n v}, n ≤ l.length → v ∈ ofClass l l[i].Class n → v ∈ ofClass l l[i].Class l.length := fun {n v} hn hv => by
    obtain ⟨k, h1, h2, h3⟩ := mem_ofClass.1 hv
    exact mem_ofClass.2 ⟨k, by omega, h2, h3⟩
  refine loop_to (f := fun x : List Int × Int => lay_Order_l22 x.1 l i a b (l.length : Int) x.2) (fun _ => if (i : Int) ∈ out then out else out ++ ofClass l l[i].Class l.length)
    (fun x => 0 ≤ x.2 ∧ x.2 ≤ l.length ∧ x.1 = if (i : Int) ∈ out then out else out ++ ofClass l l[i].Class x.2.toNat) (fun x => (l.length - x.2).toNat) (fun x hx => ?_) ⟨by simp, by simp, by simp [ofClass]⟩
  obtain ⟨o, k⟩ := x
  obtain ⟨h0, h1, h2⟩ := hx
  simp only at h0 h1 h2 ⊢
  unfold lay_Order_l22
  by_cases hk : k < (l.length : Int)
  · left
    have hlt : k.toNat < l.length := by omega
    have w1 : IntKind.wrap .i64 (k + 1) = k + 1 := wrap64 (by omega) (by omega)
    have e : (k + 1).toNat = k.toNat + 1 := by omega
    have hs := ofClass_succ l l[i].Class k.toNat hlt
    have hol : o.length ≤ 2000 := by
      rw [h2]
      have := ofClass_length l l[i].Class k.toNat
      split
      · omega
      · rw [List.length_append]; omega
    simp only [hk, decide_true, if_true, idx_eq h0 hk, Option.bind_some, idx_nat hi]
    by_cases hc : (l[k.toNat]'hlt).Class = l[i].Class
    · rw [if_pos hc] at hs
      have hkm : k ∈ ofClass l l[i].Class l.length := mem_ofClass.2 ⟨k.toNat, hlt, by simp [List.getElem?_eq_getElem hlt, hc], by omega⟩
      simp only [hc, beq_self_eq_true, if_true]
      rw [contains_spec _ _ (by omega), Option.bind_some]
      by_cases hin : (i : Int) ∈ out
      · rw [if_pos hin] at h2
        have hko : k ∈ out := by
          rcases hall with h | h
          · exact h k hkm
          · exact absurd hin (h _ hii)
        refine ⟨(out, k + 1), by simp [h2, hko, w1], ⟨by simp only; omega, by simp only; omega, by simp [hin]⟩, by simp only; omega, trivial⟩
      · rw [if_neg hin] at h2
        have hko : k ∉ out := by
          rcases hall with h | h
          · exact absurd (h _ hii) hin
          · exact h k hkm
        have hkn : k ∉ o := by
          rw [h2]
          intro hm
          rcases List.mem_append.1 hm with hm | hm
          · exact hko hm
          · obtain ⟨j, h3, _, h5⟩ := mem_ofClass.1 hm
            omega
        rw [grow_eq (by simp; omega) (by simp; omega)]
        refine ⟨(o ++ [k], k + 1), by simp [hkn, w1], ⟨by simp only; omega, by simp only; omega, ?_⟩, by simp only; omega, trivial⟩
        simp only [e, hs, if_neg hin, h2, List.append_assoc]
        have : ((k.toNat : Nat) : Int) = k := by omega
        rw [this]
    · rw [if_neg hc, List.append_nil] at hs
      have hc' : ((l[k.toNat]'hlt).Class == l[i].Class) = false := by simpa using hc
      refine ⟨(o, k + 1), by simp [hc', w1], ⟨by simp only; omega, by simp only; omega, by simp only [e, hs]; exact h2⟩, by simp only; omega, trivial⟩
  · right
    have : k.toNat = l.length := by omega
    rw [this] at h2
    simp [hk, h2]

/-- The order, of the first i numbers' classes. -/
def ord (l : List Comb) : Nat → List Int
  | 0 => []
  | i + 1 => if (i : Int) ∈ ord l i then ord l i else ord l i ++ (match l[i]? with | some c => ofClass l c.Class l.length | none => [])

theorem mem_ord {l : List Comb} : ∀ {i : Nat} {v : Int}, i ≤ l.length → (v ∈ ord l i ↔ ∃ k, k < l.length ∧ v = k ∧ ∃ j, j < i ∧ l[j]?.map Comb.Class = l[k]?.map Comb.Class)
  | 0, v, _ => by simp [ord]
  | i + 1, v, hi => by
    have ih := fun v => mem_ord (l := l) (i := i) (v := v) (by omega)
    have hlt : i < l.length := by omega
    simp only [ord, List.getElem?_eq_getElem hlt]
    split
    · rename_i hin
      rw [ih]
      constructor
      · rintro ⟨k, h1, h2, j, h3, h4⟩; exact ⟨k, h1, h2, j, by omega, h4⟩
      · rintro ⟨k, h1, h2, j, h3, h4⟩
        by_cases hj : j < i
        · exact ⟨k, h1, h2, j, hj, h4⟩
        · obtain rfl : j = i := by omega
          obtain ⟨k', h5, h6, j', h7, h8⟩ := (ih _).1 hin
          obtain rfl : k' = j := by omega
          exact ⟨k, h1, h2, j', h7, h8.trans h4⟩
    · rename_i hin
      rw [List.mem_append, ih, mem_ofClass]
      constructor
      · rintro (⟨k, h1, h2, j, h3, h4⟩ | ⟨k, h1, h2, h3⟩)
        · exact ⟨k, h1, h2, j, by omega, h4⟩
        · exact ⟨k, h1, h3, i, by omega, by rw [h2, List.getElem?_eq_getElem hlt]; rfl⟩
      · rintro ⟨k, h1, h2, j, h3, h4⟩
        by_cases hj : j < i
        · exact .inl ⟨k, h1, h2, j, hj, h4⟩
        · obtain rfl : j = i := by omega
          rw [List.getElem?_eq_getElem hlt] at h4
          exact .inr ⟨k, h1, h4.symm, h2⟩

theorem ofClass_sorted (l : List Comb) (c : List UInt8) (n : Nat) : (ofClass l c n).Pairwise (· < ·) := by
  unfold ofClass
  rw [List.pairwise_map]
  refine List.Pairwise.filter _ ?_
  exact List.pairwise_lt_range.imp fun h => Int.ofNat_lt.2 h

theorem ord_nodup {l : List Comb} : ∀ {i : Nat}, i ≤ l.length → (ord l i).Nodup
  | 0, _ => by simp [ord]
  | i + 1, hi => by
    have ih := ord_nodup (l := l) (i := i) (by omega)
    have hlt : i < l.length := by omega
    simp only [ord, List.getElem?_eq_getElem hlt]
    split
    · exact ih
    · rename_i hin
      rw [List.nodup_append]
      refine ⟨ih, (ofClass_sorted l _ _).imp (fun h => by omega), fun a ha b hb => ?_⟩
      rintro rfl
      obtain ⟨k, h1, h2, j, h3, h4⟩ := (mem_ord (by omega)).1 ha
      obtain ⟨k', h5, h6, h7⟩ := mem_ofClass.1 hb
      obtain rfl : k = k' := by omega
      apply hin
      rw [mem_ord (by omega)]
      exact ⟨i, hlt, rfl, j, h3, by rw [h4, h6, List.getElem?_eq_getElem hlt]; rfl⟩

theorem ord_length {l : List Comb} : (ord l l.length).length = l.length := by
  have hp : (ord l l.length).Perm ((List.range l.length).map Int.ofNat) := by
    rw [List.perm_ext_iff_of_nodup (ord_nodup (Nat.le_refl _))]
    · intro v
      rw [mem_ord (Nat.le_refl _)]
      simp only [List.mem_map, List.mem_range]
      constructor
      · rintro ⟨k, h1, h2, _⟩; exact ⟨k, h1, h2.symm⟩
      · rintro ⟨k, h1, h2⟩; exact ⟨k, h1, h2.symm, k, h1, rfl⟩
    · rw [List.nodup_iff_pairwise_ne, List.pairwise_map]
      exact List.pairwise_lt_range.imp fun h e => by have := Int.ofNat.inj e; omega
  rw [hp.length_eq]; simp

theorem ord_le (l : List Comb) : ∀ i, i ≤ l.length → (ord l i).length ≤ l.length * (i + 1)
  | 0, _ => by simp [ord]
  | i + 1, hi => by
    have ih := ord_le l i (by omega)
    have hlt : i < l.length := by omega
    simp only [ord, List.getElem?_eq_getElem hlt]
    have := ofClass_length l l[i].Class l.length
    have h2 : l.length * (i + 1 + 1) = l.length * (i + 1) + l.length := by rw [Nat.mul_add_one]
    split
    · omega
    · rw [List.length_append]; omega

theorem order_spec (l : List Comb) (hl : l.length ≤ 20) : lay_Order l = some (ord l l.length) := by
  unfold lay_Order
  have := loop_to (f := fun x : List Int × Int => lay_Order_l8 x.1 l (l.length : Int) x.2) (fun _ => ord l l.length)
    (fun x => 0 ≤ x.2 ∧ x.2 ≤ l.length ∧ x.1 = ord l x.2.toNat) (fun x => (l.length - x.2).toNat) (fun x hx => by
      obtain ⟨o, i⟩ := x
      obtain ⟨h0, h1, h2⟩ := hx
      simp only at h0 h1 h2 ⊢
      subst h2
      unfold lay_Order_l8
      by_cases hi : i < (l.length : Int)
      · left
        have hlt : i.toNat < l.length := by omega
        have w1 : IntKind.wrap .i64 (i + 1) = i + 1 := wrap64 (by omega) (by omega)
        have e : (i + 1).toNat = i.toNat + 1 := by omega
        have ei : ((i.toNat : Nat) : Int) = i := by omega
        have hr := round_spec l i.toNat (ord l i.toNat) (l.length : Int) i hlt (by omega) (by
          have := ord_le l i.toNat (by omega)
          have : l.length * (i.toNat + 1) ≤ 20 * 20 := Nat.mul_le_mul hl (by omega)
          omega) (by
          by_cases hin : (i.toNat : Int) ∈ ord l i.toNat
          · left
            intro v hv
            obtain ⟨k, h3, h4, rfl⟩ := mem_ofClass.1 hv
            obtain ⟨k', h5, h6, j, h7, h8⟩ := (mem_ord (by omega)).1 hin
            obtain rfl : k' = i.toNat := by omega
            exact (mem_ord (by omega)).2 ⟨k, h3, rfl, j, h7, by rw [h8, h4, List.getElem?_eq_getElem hlt]; rfl⟩
          · right
            intro v hv hm
            obtain ⟨k, h3, h4, rfl⟩ := mem_ofClass.1 hv
            obtain ⟨k', h5, h6, j, h7, h8⟩ := (mem_ord (by omega)).1 hm
            obtain rfl : k = k' := by omega
            exact hin ((mem_ord (by omega)).2 ⟨i.toNat, hlt, rfl, j, h7, by rw [h8, h4, List.getElem?_eq_getElem hlt]; rfl⟩))
        rw [ei] at hr
        simp only [hi, decide_true, if_true]
        rw [hr, Option.bind_some]
        refine ⟨(ord l (i.toNat + 1), i + 1), ?_, ⟨by simp only; omega, by simp only; omega, by simp only [e]⟩, by simp only; omega, trivial⟩
        rw [w1]
        simp only [ord, List.getElem?_eq_getElem hlt, ei]
      · right
        have : i.toNat = l.length := by omega
        simp [hi, this]) (x := ([], 0)) ⟨by simp, by simp, by simp [ord]⟩
  rw [this]; rfl

/-! ### where segments stand -/
/-- the least multiple from n on -/
def up (n s : Int) : Int := (n + s - 1) / s * s
def stepOf (a : Int) : Int := if a = 2 then 2 else if a = 3 then 16 else if a = 4 then 256 else 1

theorem andNot_mask (x : Int) (j : Nat) (hj : j ≤ 62) (h0 : 0 ≤ x) (h1 : x ≤ 4611686018427387904) : bitsOp .andNot .i64 x ((2 ^ j - 1 : Nat) : Int) = x - x % (2 ^ j : Nat) := by
  have hp : 2 ^ j ≤ 2 ^ 62 := Nat.pow_le_pow_right (by omega) hj
  have hpos : 0 < 2 ^ j := Nat.two_pow_pos j
  obtain ⟨n, rfl⟩ : ∃ n : Nat, x = n := ⟨x.toNat, by omega⟩
  have e0 : (BitVec.ofInt 64 (n : Int)).toNat = n := by rw [BitVec.toNat_ofInt]; omega
  have e1 : (BitVec.ofInt 64 ((2 ^ j - 1 : Nat) : Int)).toNat = 2 ^ j - 1 := by rw [BitVec.toNat_ofInt]; omega
  have e3 : BitVec.ofInt 64 (n : Int) &&& ~~~(BitVec.ofInt 64 ((2 ^ j - 1 : Nat) : Int)) = BitVec.ofInt 64 (n : Int) - (BitVec.ofInt 64 (n : Int) &&& BitVec.ofInt 64 ((2 ^ j - 1 : Nat) : Int)) := by
    generalize BitVec.ofInt 64 (n : Int) = a
    generalize BitVec.ofInt 64 ((2 ^ j - 1 : Nat) : Int) = b
    have h : (a &&& ~~~b) + (a &&& b) = a := by
      rw [BitVec.add_eq_or_of_and_eq_zero]
      · ext i hi; simp only [BitVec.getElem_or, BitVec.getElem_and, BitVec.getElem_not]; cases a[i] <;> cases b[i] <;> rfl
      · ext i hi; simp only [BitVec.getElem_and, BitVec.getElem_not, BitVec.getElem_zero]; cases a[i] <;> cases b[i] <;> rfl
    exact BitVec.eq_sub_iff_add_eq.2 h
  have e2 : (BitVec.ofInt 64 (n : Int) &&& BitVec.ofInt 64 ((2 ^ j - 1 : Nat) : Int)).toNat = n % 2 ^ j := by
    rw [BitVec.toNat_and, e0, e1, Nat.and_two_pow_sub_one_eq_mod]
  have hm : n % 2 ^ j ≤ n := Nat.mod_le _ _
  have h5 : bitsOp .andNot .i64 (n : Int) ((2 ^ j - 1 : Nat) : Int) = IntKind.wrap .i64 (((BitVec.ofInt 64 (n : Int) &&& ~~~(BitVec.ofInt 64 ((2 ^ j - 1 : Nat) : Int))).toNat : Nat) : Int) := rfl
  have e4 : (BitVec.ofInt 64 (n : Int) - (BitVec.ofInt 64 (n : Int) &&& BitVec.ofInt 64 ((2 ^ j - 1 : Nat) : Int))).toNat = n - n % 2 ^ j := by
    rw [BitVec.toNat_sub, e0, e2]; omega
  rw [h5, e3, e4, wrap64 (by omega) (by omega)]
  have : ((n % 2 ^ j : Nat) : Int) = (n : Int) % (2 ^ j : Nat) := Int.natCast_emod _ _
  omega

theorem step_spec (a : Int) : segs_Step a = some (stepOf a) := by
  unfold segs_Step stepOf
  by_cases h2 : a = 2
  · simp [h2]
  · by_cases h3 : a = 3
    · simp [h3]
    · by_cases h4 : a = 4
      · simp [h4]
      · simp [h2, h3, h4]

theorem up_spec (n a : Int) (h0 : 0 ≤ n) (h1 : n ≤ 16777216) : bits_Up n (stepOf a) = some (up n (stepOf a)) := by
  have key : ∀ j : Nat, j ≤ 8 → (bitsOp .and .i64 (2 ^ j : Nat) (IntKind.wrap .i64 ((2 ^ j : Nat) - 1)) != 0) = false → bits_Up n (2 ^ j : Nat) = some (up n (2 ^ j : Nat)) := by
    intro j hj hb
    have hp : 2 ^ j ≤ 2 ^ 8 := Nat.pow_le_pow_right (by omega) hj
    have hpos : 0 < 2 ^ j := Nat.two_pow_pos j
    generalize hs : ((2 ^ j : Nat) : Int) = s at *
    have hs1 : 1 ≤ s := by omega
    have hs2 : s ≤ 256 := by omega
    unfold bits_Up
    have c1 : ¬ s < 1 := by omega
    have c2 : ¬ s > 4096 := by omega
    simp only [c1, c2, decide_false, Bool.false_eq_true, if_false, hb]
    rw [mnI_eq, mxI_eq, show min (max n 0) 16777216 = n by omega, wrap64 (n := n + s) (by omega) (by omega), wrap64 (n := n + s - 1) (by omega) (by omega), wrap64 (n := s - 1) (by omega) (by omega)]
    have hm := andNot_mask (n + s - 1) j (by omega) (by omega) (by omega)
    rw [show ((2 ^ j - 1 : Nat) : Int) = s - 1 by omega, hs] at hm
    rw [hm, up]
    have := Int.mul_ediv_add_emod (n + s - 1) s
    rw [Int.mul_comm] at this
    congr 1
    omega
  unfold stepOf
  split
  · exact key 1 (by omega) (by decide)
  · split
    · exact key 4 (by omega) (by decide)
    · split
      · exact key 8 (by omega) (by decide)
      · exact key 0 (by omega) (by decide)

theorem up_ge (n a : Int) : n ≤ up n (stepOf a) ∧ up n (stepOf a) ≤ n + 255 := by
  have key : ∀ s : Int, 1 ≤ s → s ≤ 256 → n ≤ up n s ∧ up n s ≤ n + 255 := by
    intro s h1 h2
    unfold up
    have h3 := Int.mul_ediv_add_emod (n + s - 1) s
    have h4 := Int.emod_nonneg (n + s - 1) (show s ≠ 0 by omega)
    have h5 := Int.emod_lt_of_pos (n + s - 1) (show 0 < s by omega)
    rw [Int.mul_comm] at h3
    omega
  unfold stepOf
  split
  · exact key _ (by omega) (by omega)
  · split
    · exact key _ (by omega) (by omega)
    · split
      · exact key _ (by omega) (by omega)
      · exact key _ (by omega) (by omega)

def okC (c : Comb) : Prop := 0 ≤ c.Len ∧ c.Len ≤ 65536 ∧ 0 ≤ c.Frame ∧ c.Frame ≤ 65535 ∧ 0 ≤ c.Offset ∧ c.Offset ≤ 255
/-- what the bytes come to behind a segment -/
def behind (l : List Comb) (a i : Int) : Int := match l[i.toNat]? with | some c => if c.Align = 0 then a else up a (stepOf c.Align) + c.Len | none => a
/-- where a segment begins -/
def begins (l : List Comb) (a i : Int) : Int := match l[i.toNat]? with | some c => if c.Align = 0 then c.Frame * 16 + c.Offset else up a (stepOf c.Align) | none => 0
def fixed (l : List Comb) (i : Int) : Bool := match l[i.toNat]? with | some c => decide (c.Align = 0) | none => false
def ats (l : List Comb) (o : List Int) (k : Nat) : Int := (o.take k).foldl (behind l) 0

theorem ats_succ (l : List Comb) (o : List Int) (k : Nat) (h : k < o.length) : ats l o (k + 1) = behind l (ats l o k) o[k] := by
  unfold ats
  rw [List.take_add_one, List.getElem?_eq_getElem h, List.foldl_append]; rfl
theorem behind_ge (l : List Comb) (hc : ∀ c ∈ l, okC c) (a i : Int) : a ≤ behind l a i ∧ behind l a i ≤ a + 255 + 65536 := by
  unfold behind
  cases h : l[i.toNat]? with
  | none => simp only; omega
  | some c =>
    have hm := hc c (List.mem_of_getElem? h)
    unfold okC at hm
    simp only
    have := up_ge a c.Align
    split <;> omega
theorem ats_mono (l : List Comb) (hc : ∀ c ∈ l, okC c) (o : List Int) : ∀ (m k : Nat), k ≤ m → m ≤ o.length → ats l o k ≤ ats l o m
  | 0, k, h, _ => by obtain rfl : k = 0 := by omega
                     exact Int.le_refl _
  | m + 1, k, h, hm => by
    by_cases e : k = m + 1
    · subst e; exact Int.le_refl _
    · have := ats_mono l hc o m k (by omega) (by omega)
      have h2 := (behind_ge l hc (ats l o m) (o[m]'(by omega))).1
      rw [ats_succ l o m (by omega)]
      omega
theorem ats_nonneg (l : List Comb) (hc : ∀ c ∈ l, okC c) (o : List Int) (k : Nat) (h : k ≤ o.length) : 0 ≤ ats l o k := by
  have := ats_mono l hc o k 0 (by omega) h
  simpa [ats] using this

theorem begin_fixed (c : Comb) (h : okC c) : IntKind.wrap .i64 (shlI .i64 (IntKind.wrap .i64 c.Frame) 4 + IntKind.wrap .i64 c.Offset) = c.Frame * 16 + c.Offset := by
  obtain ⟨_, _, h1, h2, h3, h4⟩ := h
  rw [wrap64 (n := c.Frame) (by omega) (by omega), wrap64 (n := c.Offset) (by omega) (by omega)]
  have : shlI .i64 c.Frame 4 = IntKind.wrap .i64 (c.Frame * 16) := rfl
  rw [this, wrap64 (n := c.Frame * 16) (by omega) (by omega), wrap64 (by omega) (by omega)]

/-- What is laid down to number k. -/
def Laid (l : List Comb) (o : List Int) (st : List Int) (fx : List Bool) (k : Nat) : Prop :=
  st.length = l.length ∧ fx.length = l.length ∧ (∀ t (h : t < o.length), t < k → st[(o[t]).toNat]? = some (begins l (ats l o t) o[t]) ∧ fx[(o[t]).toNat]? = some (fixed l o[t])) ∧
    (∀ t (h : t < o.length), k ≤ t → fx[(o[t]).toNat]? = some false)

theorem place_spec (l : List Comb) (hl : l.length ≤ 20) (hc : ∀ c ∈ l, okC c) :
    (ats l (ord l l.length) l.length > 655360 ∧ lay_Place l = some (⟨[], [], [], 0⟩, 8)) ∨
    (ats l (ord l l.length) l.length ≤ 655360 ∧ ∃ st fx, lay_Place l = some (⟨st, fx, [], ats l (ord l l.length) l.length⟩, 0) ∧ Laid l (ord l l.length) st fx l.length) := by
  have hol := ord_length (l := l)
  have hnd := ord_nodup (l := l) (Nat.le_refl _)
  have hrg : ∀ t (h : t < (ord l l.length).length), 0 ≤ (ord l l.length)[t] ∧ ((ord l l.length)[t]).toNat < l.length := by
    intro t h
    obtain ⟨k, h1, h2, _⟩ := (mem_ord (Nat.le_refl _)).1 (List.getElem_mem h)
    omega
  unfold lay_Place
  rw [mk_eq (by omega) (by omega) (by omega), mk_eq (by omega) (by omega) (by omega), order_spec l hl]
  simp only [Option.bind_some]
  generalize ord l l.length = o at hol hnd hrg
  have hne : ∀ t t' (h : t < o.length) (h' : t' < o.length), t ≠ t' → (o[t]).toNat ≠ (o[t']).toNat := by
    intro t t' h h' hn e
    have h1 := hrg t h
    have h2 := hrg t' h'
    have he : o[t] = o[t'] := by omega
    have hp := List.pairwise_iff_getElem.1 (List.nodup_iff_pairwise_ne.1 hnd)
    rcases Nat.lt_or_gt_of_ne hn with h3 | h3
    · exact hp t t' h h' h3 he
    · exact hp t' t h' h h3 he.symm
  obtain ⟨b, h1, h2⟩ := loop_rule (f := fun x : List Int × List Bool × Int × Int => lay_Place_l8 x.1 x.2.1 0 x.2.2.1 l o (o.length : Int) x.2.2.2)
    (fun x => 0 ≤ x.2.2.2 ∧ x.2.2.2 ≤ o.length ∧ x.2.2.1 = ats l o x.2.2.2.toNat ∧ x.2.2.1 ≤ 655360 ∧ Laid l o x.1 x.2.1 x.2.2.2.toNat) (fun x => (o.length - x.2.2.2).toNat)
    (fun r => (r = .inl (⟨[], [], [], 0⟩, 8) ∧ ats l o l.length > 655360) ∨ ∃ st fx, r = .inr (st, fx, ats l o l.length) ∧ ats l o l.length ≤ 655360 ∧ Laid l o st fx l.length) (fun x hx => by
      obtain ⟨st, fx, a, t⟩ := x
      obtain ⟨h0, h1, h2, h3, hst, hfx, hL, hR⟩ := hx
      simp only at h0 h1 h2 h3 hst hfx hL hR ⊢
      subst h2
      unfold lay_Place_l8
      by_cases ht : t < (o.length : Int)
      · have hlt : t.toNat < o.length := by omega
        obtain ⟨hv0, hv1⟩ := hrg t.toNat hlt
        have w1 : IntKind.wrap .i64 (t + 1) = t + 1 := wrap64 (by omega) (by omega)
        have e : (t + 1).toNat = t.toNat + 1 := by omega
        have hsucc := ats_succ l o t.toNat hlt
        have hnn := ats_nonneg l hc o t.toNat (by omega)
        have hok := hc _ (List.getElem_mem hv1)
        generalize hvv : o[t.toNat]'hlt = v at hv0 hv1 hsucc hok
        have hcc : l[v.toNat]? = some (l[v.toNat]'hv1) := List.getElem?_eq_getElem hv1
        generalize l[v.toNat]'hv1 = c at hcc hok
        have hst1 : v.toNat < st.length := by omega
        have hfx1 : v.toNat < fx.length := by omega
        have i1 : idx o t = some v := by rw [idx_eq h0 ht, hvv]
        have i2 : idx l v = some c := by unfold idx; rw [if_pos hv0, hcc]
        have i3 : idx st v = some (st[v.toNat]'hst1) := idx_eq hv0 (by omega)
        have i4 : idx fx v = some (fx[v.toNat]'hfx1) := idx_eq hv0 (by omega)
        have i5 : ∀ q, idx (st.set v.toNat q) v = some q := fun q => idx_set i3
        simp only [ht, decide_true, if_true, i1, i2, Option.bind_some]
        by_cases ha : c.Align = 0
        · left
          have hb : behind l (ats l o t.toNat) v = ats l o t.toNat := by unfold behind; rw [hcc]; simp [ha]
          have hbg : begins l (ats l o t.toNat) v = c.Frame * 16 + c.Offset := by unfold begins; rw [hcc]; simp [ha]
          have hfd : fixed l v = true := by unfold fixed; rw [hcc]; simp [ha]
          refine ⟨(st.set v.toNat (c.Frame * 16 + c.Offset), fx.set v.toNat true, ats l o t.toNat, t + 1), by simp [ha, i3, i4, w1, begin_fixed c hok], ⟨by simp only; omega, by simp only; omega, by simp only [e]; rw [hsucc, hb], h3, by simp [hst], by simp [hfx], ?_, ?_⟩, by simp only; omega⟩
          · intro t' ht' hlt'
            simp only [e] at hlt'
            by_cases he : t' = t.toNat
            · subst he
              rw [hvv, List.getElem?_set_self (by omega), List.getElem?_set_self (by omega), hbg, hfd]
              exact ⟨rfl, rfl⟩
            · have hn := hne t' t.toNat ht' hlt he
              rw [hvv] at hn
              rw [List.getElem?_set_ne (Ne.symm hn), List.getElem?_set_ne (Ne.symm hn)]
              exact hL t' ht' (by omega)
          · intro t' ht' hge
            simp only [e] at hge
            have hn := hne t' t.toNat ht' hlt (by omega)
            rw [hvv] at hn
            rw [List.getElem?_set_ne (Ne.symm hn)]
            exact hR t' ht' (by omega)
        · have hlen := hok.1
          have hlen2 := hok.2.1
          have hug := up_ge (ats l o t.toNat) c.Align
          have hb : behind l (ats l o t.toNat) v = up (ats l o t.toNat) (stepOf c.Align) + c.Len := by unfold behind; rw [hcc]; simp [ha]
          have hbg : begins l (ats l o t.toNat) v = up (ats l o t.toNat) (stepOf c.Align) := by unfold begins; rw [hcc]; simp [ha]
          have hfd : fixed l v = false := by unfold fixed; rw [hcc]; simp [ha]
          have ha' : (c.Align == 0) = false := by simpa using ha
          have w2 : IntKind.wrap .i64 (up (ats l o t.toNat) (stepOf c.Align) + c.Len) = up (ats l o t.toNat) (stepOf c.Align) + c.Len := wrap64 (by omega) (by omega)
          simp only [ha', Bool.false_eq_true, if_false, step_spec, up_spec _ c.Align hnn (by omega : ats l o t.toNat ≤ 16777216), Option.bind_some, i3, i5, w2]
          by_cases hbig : up (ats l o t.toNat) (stepOf c.Align) + c.Len > 655360
          · right
            have := ats_mono l hc o l.length (t.toNat + 1) (by omega) (by omega)
            rw [hsucc, hb] at this
            exact ⟨_, by simp [hbig], .inl ⟨rfl, by omega⟩⟩
          · left
            refine ⟨(st.set v.toNat (up (ats l o t.toNat) (stepOf c.Align)), fx, up (ats l o t.toNat) (stepOf c.Align) + c.Len, t + 1), by simp [hbig, w1], ⟨by simp only; omega, by simp only; omega, by simp only [e]; rw [hsucc, hb], by simp only; omega, by simp [hst], hfx, ?_, ?_⟩, by simp only; omega⟩
            · intro t' ht' hlt'
              simp only [e] at hlt'
              by_cases he : t' = t.toNat
              · subst he
                have hr := hR t.toNat hlt (Nat.le_refl _)
                rw [hvv] at hr
                rw [hvv, List.getElem?_set_self (by omega), hbg, hfd]
                exact ⟨rfl, hr⟩
              · have hn := hne t' t.toNat ht' hlt he
                rw [hvv] at hn
                rw [List.getElem?_set_ne (Ne.symm hn)]
                exact hL t' ht' (by omega)
            · intro t' ht' hge
              simp only [e] at hge
              exact hR t' ht' (by omega)
      · right
        have : t.toNat = l.length := by omega
        rw [this] at h3 hL hR
        exact ⟨.inr (st, fx, ats l o l.length), by simp [ht, this], .inr ⟨st, fx, rfl, h3, hst, hfx, hL, hR⟩⟩) (x := (List.replicate (l.length : Int).toNat 0, List.replicate (l.length : Int).toNat false, 0, 0))
    ⟨by simp, by simp, by simp [ats], by simp, by simp, by simp, by intro t h h'; simp at h', by
      intro t h _
      have := hrg t h
      simp only [Int.toNat_natCast, List.getElem?_replicate]
      rw [if_pos this.2]⟩
  rw [h1, Option.bind_some]
  rcases h2 with ⟨rfl, h2⟩ | ⟨st, fx, rfl, h2, h3⟩
  · exact .inl ⟨h2, rfl⟩
  · exact .inr ⟨h2, st, fx, rfl, h3⟩
end Go.Es.Lay
