/- What is read of a record's bytes: in plain Lean. No condition. -/
import Derived.Test.YtikbjljifgadmaaMzmP
import Derived.KernelRfl
set_option linter.unusedVariables false
set_option linter.unusedSimpArgs false
set_option maxHeartbeats 1000000
set_option maxRecDepth 100000
namespace Go.Es.Mzm
theorem cut_min {α : Type} (l : List α) (k : Nat) : cutL l 0 (mnI (l.length : Int) (k : Int)) = some (l.take k) := by
  rw [mnI_eq, cutL_eq (by omega) (by omega) (by omega)]
  have : (min (l.length : Int) (k : Int)).toNat = min l.length k := by omega
  simp only [Int.toNat_zero, List.drop_zero, Nat.sub_zero, this]
  congr 1
  by_cases h : k ≤ l.length
  · rw [Nat.min_eq_right h]
  · rw [Nat.min_eq_left (by omega), List.take_of_length_le (by omega), List.take_of_length_le (by omega)]
theorem cut_to {α : Type} (l : List α) {k : Nat} (h : k ≤ l.length) : cutL l 0 (k : Int) = some (l.take k) := by
  rw [cutL_eq (by omega) (by omega) (by omega)]; simp
theorem b2s_s2b (s : List UInt8) : b2s (s2b s) = s := by
  simp only [b2s, s2b, List.map_map]
  conv => rhs; rw [← List.map_id s]
  apply List.map_congr_left
  intro c _
  simp
theorem s2b_b2s {l : List Int} (h : ∀ c ∈ l, wfI .u8 c) : s2b (b2s l) = l := by
  simp only [b2s, s2b, List.map_map]
  conv => rhs; rw [← List.map_id l]
  apply List.map_congr_left
  intro c hc
  obtain ⟨h0, h1⟩ := wfI_u8.1 (h c hc)
  simp only [Function.comp, id, UInt8.toNat_ofNat']
  omega
theorem b2s_append (a b : List Int) : b2s (a ++ b) = b2s a ++ b2s b := by simp [b2s]
theorem b2s_cons (a : Int) (b : List Int) : b2s (a :: b) = UInt8.ofNat a.toNat :: b2s b := rfl
theorem s2b_append (a b : List UInt8) : s2b (a ++ b) = s2b a ++ s2b b := by simp [s2b]
theorem s2b_length (s : List UInt8) : (s2b s).length = s.length := by simp [s2b]
theorem b2s_length (s : List Int) : (b2s s).length = s.length := by simp [b2s]
theorem s2b_take (s : List UInt8) (k : Nat) : s2b (s.take k) = (s2b s).take k := by simp [s2b, List.map_take]
theorem s2b_wf (s : List UInt8) : ∀ c ∈ s2b s, wfI .u8 c := by
  intro c hc
  simp only [s2b, List.mem_map] at hc
  obtain ⟨x, _, rfl⟩ := hc
  have := x.toNat_lt
  exact wfI_u8.2 ⟨by omega, by omega⟩

/-! ### sources -/
/-! ### names -/
/-- a name's bytes -/
def enc (s : List UInt8) : List Int := (s.length : Int) :: s2b s
theorem enc_length (s : List UInt8) : (enc s).length = s.length + 1 := by simp [enc, s2b]

theorem and_mask' {x : Int} {m : Int} (j : Nat) (hj : j ≤ 62) (hm : m = ((2 ^ j - 1 : Nat) : Int)) : bitsOp .and .i64 x m = x % (2 ^ j : Nat) := by
  subst hm; exact and_mask x j hj
theorem idx_ex {α : Type} {l : List α} {i : Int} (h0 : 0 ≤ i) (h1 : i < (l.length : Int)) : ∃ z, idx l i = some z := ⟨_, idx_eq h0 h1⟩
theorem near_ok (x : Image) (hB : x.Bytes.length ≤ maxLen) (hR : x.Relocs.length ≤ maxLen) : ∃ y, hansomref44_Near x = some y ∧ y.Bytes.length ≤ 600 ∧ 0 ≤ y.Min ∧ y.Min ≤ 255 := by
  unfold hansomref44_Near
  rw [mnI_eq, cutL_eq (by omega) (by omega) (by omega), Option.bind_some]
  have hlen : ((x.Bytes.drop (0 : Int).toNat).take ((min (x.Bytes.length : Int) 600).toNat - (0 : Int).toNat)).length ≤ 600 := by
    rw [List.length_take]; omega
  generalize (x.Bytes.drop (0 : Int).toNat).take ((min (x.Bytes.length : Int) 600).toNat - (0 : Int).toNat) = B at hlen
  have hg : grow 1 ([] : List Int) B = some B := by rw [grow_eq (by simp; omega) (by simp; omega)]; rfl
  rw [hg, Option.bind_some]
  obtain ⟨e, h1, h2⟩ := loop_rule (f := fun z : (Image × Int × Int) => hansomref44_Near_l14 x z.1 z.2.1 z.2.2)
    (fun z => z.1.Bytes = B ∧ 0 ≤ z.2.2 ∧ z.2.2 ≤ 6 ∧ (z.1.Relocs.length : Int) = z.2.2) (fun z => (7 - z.2.2).toNat) (fun y => y.Bytes = B) (by
      rintro ⟨y, a, i⟩ ⟨hb, h0, h6, hl⟩
      simp only at hb h0 h6 hl ⊢
      unfold hansomref44_Near_l14
      by_cases c1 : i < (x.Relocs.length : Int)
      · by_cases c2 : i < 6
        · obtain ⟨z, hz⟩ := idx_ex (l := x.Relocs) h0 c1
          simp only [c1, c2, decide_true, if_true, hz, Option.bind_some]
          split
          · exact .inr ⟨y, rfl, hb⟩
          · rw [grow_eq (by simp only [List.length_cons, List.length_nil]; omega) (by simp only [List.length_cons, List.length_nil]; omega), Option.bind_some, wrap64 (n := i + 1) (by omega) (by omega)]
            exact .inl ⟨_, rfl, ⟨hb, by simp only; omega, by simp only; omega, by simp only [List.length_append, List.length_cons, List.length_nil]; omega⟩, by simp only; omega⟩
        · simp only [c1, c2, decide_true, decide_false, if_true, Bool.false_eq_true, if_false]
          exact .inr ⟨y, rfl, hb⟩
      · simp only [c1, decide_false, Bool.false_eq_true, if_false]
        exact .inr ⟨y, rfl, hb⟩) (x := (({ x with Bytes := B, Relocs := ([] : List Int) } : Image), 0, 0)) ⟨rfl, by simp, by simp, by simp⟩
  rw [h1, Option.bind_some]
  have h255 : bitsOp .and .i64 x.Min 255 = x.Min % 256 := and_mask' 8 (by omega) rfl
  refine ⟨_, rfl, ?_, ?_, ?_⟩
  · simp only [h2]; exact hlen
  · simp only [h255]; omega
  · simp only [h255]; omega

theorem paras_eq {k : Int} (h1 : 1 ≤ k) (h2 : k ≤ 604) : bits_Paras k = some ((k - 1) / 16 + 1) := by
  unfold bits_Paras
  rw [if_neg (by simp only [decide_eq_true_eq]; omega), wrap64 (n := k - 1) (by omega) (by omega), Int.tdiv_eq_ediv_of_nonneg (by omega), wrap64 (n := (k - 1) / 16) (by omega) (by omega), wrap64 (by omega) (by omega)]

theorem may_eq (y : Image) {a b : Int} (hR : y.Relocs = [a, b]) (h4 : 4 ≤ y.Bytes.length) (hk : y.Bytes.length ≤ 604) (ha : -300 ≤ a ∧ a ≤ 700) (hb : -300 ≤ b ∧ b ≤ 700) (hm : -300 ≤ y.Min ∧ y.Min ≤ 50000) :
    mz_May y = some (decide (0 ≤ y.Min ∧ y.Min ≤ 40960 - (((y.Bytes.length : Int) - 1) / 16 + 1) ∧ 0 ≤ a ∧ a ≤ (y.Bytes.length : Int) - 2 ∧ 0 ≤ b ∧ b ≤ (y.Bytes.length : Int) - 2 ∧ 2 ≤ b - a)) := by
  unfold mz_May
  rw [if_neg (by simp only [decide_eq_true_eq]; omega)]
  by_cases c0 : y.Min < 0
  · rw [if_pos (by simpa using c0)]; simp only [Option.some.injEq]; symm; rw [decide_eq_false_iff_not]; omega
  rw [if_neg (by simpa using c0), paras_eq (by omega) (by omega), Option.bind_some, wrap64 (n := 40960 - _) (by omega) (by omega)]
  by_cases c1 : y.Min > 40960 - (((y.Bytes.length : Int) - 1) / 16 + 1)
  · rw [if_pos (by simpa using c1)]; simp only [Option.some.injEq]; symm; rw [decide_eq_false_iff_not]; omega
  rw [if_neg (by simpa using c1), hR, if_neg (by simp)]
  have ew : IntKind.wrap .i64 ((y.Bytes.length : Int) - 2) = (y.Bytes.length : Int) - 2 := wrap64 (by omega) (by omega)
  have hl : (([a, b] : List Int).length : Int) = 2 := rfl
  rw [hl]
  have l0 : mz_May_l14 y [a, b] 2 0 = (if a < 0 then some (.out (.inl false)) else if a > (y.Bytes.length : Int) - 2 then some (.out (.inl false)) else some (.next 1)) := by
    unfold mz_May_l14
    rw [if_pos (by decide), show idx ([a, b] : List Int) 0 = some a from rfl, Option.bind_some, ew]
    by_cases d0 : a < 0
    · simp [d0]
    · by_cases d1 : a > (y.Bytes.length : Int) - 2
      · simp [d0, d1]
      · rw [if_neg (by simpa using d0), if_neg (by simpa using d1), if_neg (by decide), if_neg d0, if_neg d1]; rfl
  have l1 : mz_May_l14 y [a, b] 2 1 = (if b < 0 then some (.out (.inl false)) else if b > (y.Bytes.length : Int) - 2 then some (.out (.inl false)) else if b - a < 2 then some (.out (.inl false)) else some (.next 2)) := by
    unfold mz_May_l14
    rw [if_pos (by decide), show idx ([a, b] : List Int) 1 = some b from rfl, Option.bind_some, ew, hR]
    by_cases d0 : b < 0
    · simp [d0]
    · by_cases d1 : b > (y.Bytes.length : Int) - 2
      · simp [d0, d1]
      · rw [if_neg (by simpa using d0), if_neg (by simpa using d1), if_pos (by decide), if_neg d0, if_neg d1]
        rw [show idx ([a, b] : List Int) (IntKind.wrap .i64 (1 - 1)) = some a from rfl, Option.bind_some, wrap64 (n := b - a) (by omega) (by omega)]
        by_cases d2 : b - a < 2
        · rw [if_pos (by simpa using d2), if_pos d2]
        · rw [if_neg (by simpa using d2), if_neg d2]; rfl
  have l2 : mz_May_l14 y [a, b] 2 2 = some (.out (.inr ())) := by
    unfold mz_May_l14; rw [if_neg (by decide)]
  rw [loopO_eq, l0]
  by_cases d0 : a < 0
  · rw [if_pos d0]; simp only [Option.bind_some, Option.some.injEq]; symm; rw [decide_eq_false_iff_not]; omega
  rw [if_neg d0]
  by_cases d1 : a > (y.Bytes.length : Int) - 2
  · rw [if_pos d1]; simp only [Option.bind_some, Option.some.injEq]; symm; rw [decide_eq_false_iff_not]; omega
  rw [if_neg d1]
  simp only [Option.bind_some]
  rw [loopO_eq, l1]
  by_cases e0 : b < 0
  · rw [if_pos e0]; simp only [Option.bind_some, Option.some.injEq]; symm; rw [decide_eq_false_iff_not]; omega
  rw [if_neg e0]
  by_cases e1 : b > (y.Bytes.length : Int) - 2
  · rw [if_pos e1]; simp only [Option.bind_some, Option.some.injEq]; symm; rw [decide_eq_false_iff_not]; omega
  rw [if_neg e1]
  by_cases e2 : b - a < 2
  · rw [if_pos e2]; simp only [Option.bind_some, Option.some.injEq]; symm; rw [decide_eq_false_iff_not]; omega
  rw [if_neg e2]
  simp only [Option.bind_some]
  rw [loopO_eq, l2]
  simp only [Option.bind_some, Option.some.injEq]; symm; rw [decide_eq_true_eq]; omega

theorem two_eq (w : Int) : ∃ p q, index_Two w = some [p, q] := ⟨_, _, rfl⟩
theorem l22_ok (y : Image) (n : Int) (t : List Int) (ht : t.length = 13) : ∃ e, loopO (fun x : ((List Int) × Int) => mz_Write_l22 y x.1 n t (t.length : Int) x.2) (([77, 90] : List Int), 0) = some e ∧ e.length = 28 := by
  refine loop_rule (fun (x : List Int × Int) => 0 ≤ x.2 ∧ x.2 ≤ 13 ∧ (x.1.length : Int) = 2 + 2 * x.2) (fun (x : List Int × Int) => (13 - x.2).toNat) (fun (e : List Int) => e.length = 28) ?_ ⟨by simp, by simp, by simp⟩
  rintro ⟨l, i⟩ ⟨h0, h1, h2⟩
  simp only at h0 h1 h2 ⊢
  unfold mz_Write_l22
  rw [ht]
  by_cases c : i < 13
  · obtain ⟨z, hz⟩ := idx_ex (l := t) h0 (by omega)
    obtain ⟨p, q, hpq⟩ := two_eq z
    rw [if_pos (by simpa using c), hz, Option.bind_some, hpq, Option.bind_some, grow_eq (by simp only [List.length_cons, List.length_nil]; omega) (by simp only [List.length_cons, List.length_nil]; omega), Option.bind_some, wrap64 (n := i + 1) (by omega) (by omega)]
    exact .inl ⟨_, rfl, ⟨by simp only; omega, by simp only; omega, by simp only [List.length_append, List.length_cons, List.length_nil]; omega⟩, by simp only; omega⟩
  · rw [if_neg (by simpa using c)]
    exact .inr ⟨l, rfl, by omega⟩
theorem l39_ok (y : Image) (n : Int) (a b : Int) (l0 : List Int) (h28 : l0.length = 28) : ∃ e, loopO (fun x : ((List Int) × Int) => mz_Write_l39 y x.1 n [a, b] (([a, b] : List Int).length : Int) x.2) (l0, 0) = some e ∧ e.length = 36 := by
  refine loop_rule (fun (x : List Int × Int) => 0 ≤ x.2 ∧ x.2 ≤ 2 ∧ (x.1.length : Int) = 28 + 4 * x.2) (fun (x : List Int × Int) => (2 - x.2).toNat) (fun (e : List Int) => e.length = 36) ?_ ⟨by simp, by simp, by simp [h28]⟩
  rintro ⟨l, i⟩ ⟨h0, h1, h2⟩
  simp only at h0 h1 h2 ⊢
  unfold mz_Write_l39
  have hl : (([a, b] : List Int).length : Int) = 2 := rfl
  rw [hl]
  by_cases c : i < 2
  · obtain ⟨z, hz⟩ := idx_ex (l := ([a, b] : List Int)) h0 (by rw [hl]; omega)
    rw [if_pos (by simpa using c), hz, Option.bind_some]
    simp only [bits_Normal, Option.bind_some]
    obtain ⟨p, q, hpq⟩ := two_eq (IntKind.wrap .u16 (bitsOp .and .u32 (bitsOp .and .u32 (IntKind.wrap .u32 z) 1048575) 15))
    obtain ⟨p', q', hpq'⟩ := two_eq (IntKind.wrap .u16 (shrI .u32 (bitsOp .and .u32 (IntKind.wrap .u32 z) 1048575) 4))
    rw [hpq, Option.bind_some, grow_eq (by simp only [List.length_cons, List.length_nil]; omega) (by simp only [List.length_cons, List.length_nil]; omega), Option.bind_some, hpq', Option.bind_some,
      grow_eq (by simp only [List.length_append, List.length_cons, List.length_nil]; omega) (by simp only [List.length_append, List.length_cons, List.length_nil]; omega), Option.bind_some, wrap64 (n := i + 1) (by omega) (by omega)]
    exact .inl ⟨_, rfl, ⟨by simp only; omega, by simp only; omega, by simp only [List.length_append, List.length_cons, List.length_nil]; omega⟩, by simp only; omega⟩
  · rw [if_neg (by simpa using c)]
    exact .inr ⟨l, rfl, by omega⟩
theorem write_ok (y : Image) {a b : Int} (hR : y.Relocs = [a, b]) (hk : y.Bytes.length ≤ 604) (hm : mz_May y = some true) : ∃ l, mz_Write y = some (l, 0) ∧ 0 < l.length := by
  unfold mz_Write
  rw [hm, Option.bind_some, if_neg (by decide), hR]
  have hh : mz_head (([a, b] : List Int).length : Int) = some 48 := by kernel_rfl
  rw [hh, Option.bind_some]
  obtain ⟨e1, h1, k1⟩ := l22_ok y 48 ([(IntKind.wrap .u16 (Int.tmod (IntKind.wrap .i64 (48 + (y.Bytes.length : Int))) 512)), (IntKind.wrap .u16 (IntKind.wrap .i64 (Int.tdiv (IntKind.wrap .i64 ((IntKind.wrap .i64 ((IntKind.wrap .i64 (48 + (y.Bytes.length : Int))) + 512)) - 1)) 512))), (IntKind.wrap .u16 (([a, b] : List Int).length : Int)), (IntKind.wrap .u16 (IntKind.wrap .i64 (Int.tdiv 48 16))), (IntKind.wrap .u16 y.Min), 65535, y.SS, y.SP, 0, y.IP, y.CS, 28, 0] : List Int) rfl
  rw [h1, Option.bind_some]
  obtain ⟨e2, h2, k2⟩ := l39_ok y 48 a b e1 k1
  rw [h2, Option.bind_some]
  have hg : growZ 1 0 e2 (IntKind.wrap .i64 (48 - (e2.length : Int))) = some (e2 ++ List.replicate 12 0) := by
    rw [k2, show IntKind.wrap .i64 (48 - ((36 : Nat) : Int)) = 12 from rfl]
    unfold growZ
    rw [if_pos (by rw [k2]; decide)]; rfl
  rw [hg, Option.bind_some, grow_eq (by simp only [List.length_append, List.length_replicate]; omega) (by simp only [List.length_append, List.length_replicate]; omega), Option.bind_some]
  exact ⟨_, rfl, by simp only [List.length_append, List.length_replicate]; omega⟩

end Go.Es.Mzm
