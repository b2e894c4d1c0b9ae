/- What is read of a record's bytes: in plain Lean. No condition. -/
import Derived.Test.YtedmdailpfbboaaIxpP
set_option linter.unusedVariables false
set_option linter.unusedSimpArgs false
set_option maxHeartbeats 1000000
namespace Go.Es.Ixp
theorem cut_min {α : Type} (l : List α) (k : Nat) : cutL l 0 (mnI (l.length : Int) (k : Int)) = some (l.take k) := by
  rw [mnI_eq, cutL_eq (by omega) (by omega) (by omega)]
  have : (min (l.length : Int) (k : Int)).toNat = min l.length k := by omega
  simp only [Int.toNat_zero, List.drop_zero, Nat.sub_zero, this]
  congr 1
  by_cases h : k ≤ l.length
  · rw [Nat.min_eq_right h]
  · rw [Nat.min_eq_left (by omega), List.take_of_length_le (by omega), List.take_of_length_le (by omega)]
theorem cut_to {α : Type} (l : List α) {k : Nat} (h : k ≤ l.length) : cutL l 0 (k : Int) = some (l.take k) := by
  rw [cutL_eq (by omega) (by omega) (by omega)]; simp
theorem b2s_s2b (s : List UInt8) : b2s (s2b s) = s := by
  simp only [b2s, s2b, List.map_map]
  conv => rhs; rw [← List.map_id s]
  apply List.map_congr_left
  intro c _
  simp
theorem s2b_b2s {l : List Int} (h : ∀ c ∈ l, wfI .u8 c) : s2b (b2s l) = l := by
  simp only [b2s, s2b, List.map_map]
  conv => rhs; rw [← List.map_id l]
  apply List.map_congr_left
  intro c hc
  obtain ⟨h0, h1⟩ := wfI_u8.1 (h c hc)
  simp only [Function.comp, id, UInt8.toNat_ofNat']
  omega
theorem b2s_append (a b : List Int) : b2s (a ++ b) = b2s a ++ b2s b := by simp [b2s]
theorem b2s_cons (a : Int) (b : List Int) : b2s (a :: b) = UInt8.ofNat a.toNat :: b2s b := rfl
theorem s2b_append (a b : List UInt8) : s2b (a ++ b) = s2b a ++ s2b b := by simp [s2b]
theorem s2b_length (s : List UInt8) : (s2b s).length = s.length := by simp [s2b]
theorem b2s_length (s : List Int) : (b2s s).length = s.length := by simp [b2s]
theorem s2b_take (s : List UInt8) (k : Nat) : s2b (s.take k) = (s2b s).take k := by simp [s2b, List.map_take]
theorem s2b_wf (s : List UInt8) : ∀ c ∈ s2b s, wfI .u8 c := by
  intro c hc
  simp only [s2b, List.mem_map] at hc
  obtain ⟨x, _, rfl⟩ := hc
  have := x.toNat_lt
  exact wfI_u8.2 ⟨by omega, by omega⟩

/-! ### sources -/
theorem from_spec (b : List Int) (h : b.length ≤ 2 ^ 40) : index_From b = some ⟨b, 0⟩ := by
  unfold index_From
  rw [grow_eq (by simp; omega) (by simp; omega)]; rfl
theorem take_ok (s : Source) {n : Int} (h0 : 0 ≤ n) (h1 : n ≤ (s.b.length : Int)) : index_Source_Take s n = some (s.b.take n.toNat, ⟨s.b.drop n.toNat, s.e⟩) := by
  unfold index_Source_Take
  have e1 : ¬ n < 0 := by omega
  have e2 : ¬ n > (s.b.length : Int) := by omega
  simp only [e1, e2, decide_false, Bool.false_eq_true, if_false]
  rw [cut3_eq (by omega) h0 (by omega) h1, cutL_eq h0 h1 (by omega)]
  simp only [Option.bind_some, Int.toNat_zero, List.drop_zero, Nat.sub_zero, Int.toNat_natCast]
  have hd : List.take (s.b.length - n.toNat) (List.drop n.toNat s.b) = List.drop n.toNat s.b := List.take_of_length_le (by rw [List.length_drop]; omega)
  rw [hd]
theorem take_short (b : List Int) {n : Int} (h : n < 0 ∨ (b.length : Int) < n) : index_Source_Take ⟨b, 0⟩ n = some ([], ⟨[], 2⟩) := by
  unfold index_Source_Take
  rcases h with h | h
  · simp [h, index_Source_Wrong]
  · by_cases h0 : n < 0
    · simp [h0, index_Source_Wrong]
    · simp [h0, h, index_Source_Wrong]
theorem byte_cons (c : Int) (r : List Int) (e : Int) : index_Source_Byte ⟨c :: r, e⟩ = some (c, ⟨r, e⟩) := by
  unfold index_Source_Byte
  rw [take_ok _ (by omega) (by simp only [List.length_cons]; omega)]
  simp [idx]
theorem byte_nil : index_Source_Byte ⟨[], 0⟩ = some (0, ⟨[], 2⟩) := by
  unfold index_Source_Byte
  rw [take_short _ (by simp)]
  simp
theorem byte_end (e : Int) (he : e ≠ 0) : index_Source_Byte ⟨[], e⟩ = some (0, ⟨[], e⟩) := by
  unfold index_Source_Byte index_Source_Take
  simp [index_Source_Wrong, he]
theorem name_ok (c : Int) (r : List Int) (e : Int) (h0 : 0 ≤ c) (h1 : c ≤ 255) (h2 : c.toNat ≤ r.length) : index_Source_Name ⟨c :: r, e⟩ = some (b2s (r.take c.toNat), ⟨r.drop c.toNat, e⟩) := by
  unfold index_Source_Name
  rw [byte_cons, Option.bind_some]
  simp only [wrap64 (n := c) (by omega) (by omega)]
  rw [take_ok _ h0 (by simp only; omega)]; rfl
theorem name_short (c : Int) (r : List Int) (h0 : 0 ≤ c) (h1 : c ≤ 255) (h2 : r.length < c.toNat) : index_Source_Name ⟨c :: r, 0⟩ = some ([], ⟨[], 2⟩) := by
  unfold index_Source_Name
  rw [byte_cons, Option.bind_some]
  simp only [wrap64 (n := c) (by omega) (by omega)]
  rw [take_short _ (by omega)]; rfl
theorem name_nil : index_Source_Name ⟨[], 0⟩ = some ([], ⟨[], 2⟩) := by
  unfold index_Source_Name
  rw [byte_nil, Option.bind_some]
  simp only [show IntKind.wrap .i64 0 = 0 from rfl]
  rw [take_ok _ (by omega) (by simp)]; rfl
theorem end_spec (b : List Int) (e : Int) : index_Source_End ⟨b, e⟩ = some (if b = [] ∨ e ≠ 0 then (e, ⟨b, e⟩) else (3, ⟨[], 3⟩)) := by
  unfold index_Source_End index_Source_Left index_Source_Err index_Source_Wrong
  cases b with
  | nil => simp
  | cons x r =>
    by_cases he : e = 0
    · have : ¬ ((r.length : Int) + 1 ≤ 0) := by omega
      simp [he, this]
    · have : ¬ ((r.length : Int) + 1 ≤ 0) := by omega
      simp [he, this]

/-! ### names -/
/-- a name's bytes -/
def enc (s : List UInt8) : List Int := (s.length : Int) :: s2b s
theorem enc_length (s : List UInt8) : (enc s).length = s.length + 1 := by simp [enc, s2b]

theorem name_spec (s : List UInt8) (h : s.length ≤ 255) : index_Name s = some (enc s) := by
  unfold index_Name
  rw [show (255 : Int) = ((255 : Nat) : Int) from rfl, cut_min, List.take_of_length_le h, Option.bind_some, grow_eq (by simp [s2b]; omega) (by simp [s2b]; omega)]
  simp only [Option.bind_some, enc, wrapu8 (n := (s.length : Int)) (by omega) (by omega)]; rfl
theorem ref_spec (s : List UInt8) (h : s.length ≤ 255) : hansomref18_Name s = some (b2s (enc s)) := by
  unfold hansomref18_Name
  have : ¬ ((s.length : Int) > 255) := by omega
  simp only [this, decide_false, Bool.false_eq_true, if_false, wrapu8 (n := (s.length : Int)) (by omega) (by omega)]
  rw [catS_eq (by simp [b2s]; omega)]
  simp only [Option.bind_some, enc, b2s_cons, b2s_s2b]; rfl
theorem enc_name (s : List UInt8) (h : s.length ≤ 255) (r : List Int) : index_Source_Name ⟨enc s ++ r, 0⟩ = some (s, ⟨r, 0⟩) := by
  have hl : (s.length : Int).toNat = (s2b s).length := by rw [s2b_length]; omega
  have hl2 : (s.length : Int).toNat ≤ (s2b s ++ r).length := by rw [hl, List.length_append]; omega
  rw [enc, List.cons_append, name_ok _ _ _ (by omega) (by omega) hl2, hl]
  simp [b2s_s2b]


/-! ### bytes -/
theorem wrap_u8' (n : Int) : IntKind.wrap .u8 n = n % 256 := by simp [IntKind.wrap, IntKind.bits, IntKind.signed]
theorem or128 {x : Int} (h0 : 0 ≤ x) (h1 : x < 128) : bitsOp .or .u8 x 128 = x + 128 := by
  have : ∀ n : Fin 128, bitsOp .or .u8 (n.val : Int) 128 = (n.val : Int) + 128 := by decide
  have := this ⟨x.toNat, by omega⟩
  simp only at this
  rw [Int.toNat_of_nonneg h0] at this
  exact this
/-- the low bytes of a number -/
def le : Int → Nat → List Int
  | _, 0 => []
  | n, k + 1 => n % 256 :: le (n / 256) k
theorem le_length (n : Int) (k : Nat) : (le n k).length = k := by
  induction k generalizing n with
  | zero => rfl
  | succ k ih => simp [le, ih]
/-- an index's bytes -/
def ix (n : Int) : List Int := if n < 0 ∨ 32767 < n then [0] else if n < 128 then [n] else [n / 256 + 128, n % 256]
theorem index_Put_spec (n : Int) : index_Put n = some (ix n) := by
  unfold index_Put ix
  by_cases h0 : n < 0
  · simp [h0]
  · by_cases h1 : n > 32767
    · simp [h0, h1]
    · by_cases h2 : n < 128
      · simp [h0, h1, h2, wrapu8 (n := n) (by omega) (by omega)]
      · simp only [h0, h1, h2, decide_false, Bool.false_eq_true, if_false, show ¬ (n < 0 ∨ 32767 < n) from by omega]
        have e : shrI .i64 n 8 = n / 256 := shr_eq (j := 8) (by decide)
        rw [e, wrapu8 (n := n / 256) (by omega) (by omega), or128 (by omega) (by omega), wrap_u8']; simp only [or_self, if_false]
theorem ref_Index_spec (n : Int) : hansomref18_Index n = some (b2s (ix n)) := by
  unfold hansomref18_Index ix
  by_cases h0 : n < 0
  · simp only [h0, decide_true, if_true, true_or]; rfl
  · by_cases h1 : n > 32767
    · simp only [h0, h1, decide_true, decide_false, Bool.false_eq_true, if_true, if_false, or_true]; rfl
    · simp only [h0, h1, decide_false, Bool.false_eq_true, if_false, show ¬ (n < 0 ∨ 32767 < n) from by omega]
      unfold hansomref18_Index_j8
      by_cases h2 : n < 128
      · simp [h2, wrapu8 (n := n) (by omega) (by omega)]
      · simp only [h2, decide_false, Bool.false_eq_true, if_false, Int.tdiv_eq_ediv_of_nonneg (show 0 ≤ n by omega), Int.tmod_eq_emod_of_nonneg (show 0 ≤ n by omega)]
        rw [wrap64 (n := n / 256) (by omega) (by omega), wrap64 (n := n / 256 + 128) (by omega) (by omega), wrapu8 (by omega) (by omega), wrapu8 (by omega) (by omega)]; simp only [or_self, if_false]
theorem index_Two_spec {w : Int} (h0 : 0 ≤ w) (h1 : w ≤ 65535) : index_Two w = some (le w 2) := by
  unfold index_Two bits_Low bits_High
  have e : shrI .u16 w 8 = w / 256 := shr_eq (j := 8) (by decide)
  simp only [Option.bind_some, e, wrap_u8', le]
theorem index_Four_spec {w : Int} (h0 : 0 ≤ w) (h1 : w ≤ 4294967295) : index_Four w = some (le w 4) := by
  unfold index_Four
  have e : shrI .u32 w 16 = w / 65536 := shr_eq (j := 16) (by decide)
  rw [e, wrap_u16', wrap_u16', index_Two_spec (by omega) (by omega), Option.bind_some, index_Two_spec (by omega) (by omega), Option.bind_some, grow_eq (by simp [le]) (by simp [le])]
  simp only [Option.bind_some, le, List.cons_append, List.nil_append, Option.some.injEq, List.cons.injEq, and_true, true_and]
  refine ⟨by omega, by omega, by omega, by omega⟩
theorem Bytes_spec {n : Int} {k : Nat} (h0 : 0 ≤ n) (h1 : n ≤ 18446744073709551615) (hk : k ≤ 1000) : hansomref18_Bytes n (k : Int) = some (b2s (le n k)) := by
  unfold hansomref18_Bytes
  rw [loop_to (f := fun x : Int × List UInt8 × Int => hansomref18_Bytes_l8 x.1 (k : Int) x.2.1 x.2.2) (fun x => x.2.1 ++ b2s (le x.1 (k - x.2.2.toNat)))
    (fun x => 0 ≤ x.1 ∧ x.1 ≤ 18446744073709551615 ∧ 0 ≤ x.2.2 ∧ x.2.2 ≤ k ∧ (x.2.1.length : Int) = x.2.2) (fun x => (k - x.2.2).toNat) (fun x hx => ?_) ⟨h0, h1, by simp, by simp, by simp⟩]
  · simp
  · obtain ⟨m, s, i⟩ := x
    obtain ⟨a0, a1, a2, a3, a4⟩ := hx
    simp only at a0 a1 a2 a3 a4 ⊢
    unfold hansomref18_Bytes_l8
    by_cases hi : i < (k : Int)
    · left
      rw [Int.tdiv_eq_ediv_of_nonneg a0, Int.tmod_eq_emod_of_nonneg a0, wrapu8 (n := m % 256) (by omega) (by omega), wrap64 (n := i + 1) (by omega) (by omega), wrap_u64', catS_eq (by simp [b2s]; omega)]
      simp only [hi, decide_true, if_true, Option.bind_some]
      have e : k - i.toNat = (k - (i + 1).toNat) + 1 := by omega
      refine ⟨_, rfl, ⟨by simp only; omega, by simp only; omega, by simp only; omega, by simp only; omega, by simp only [List.length_append, b2s_length, List.length_cons, List.length_nil]; omega⟩, by simp only; omega, ?_⟩
      simp only [e, le, b2s_cons, List.append_assoc]
      rw [show m / 256 % 18446744073709551616 = m / 256 by omega]
      rfl
    · right
      have e : k - i.toNat = 0 := by omega
      simp [hi, e, le, b2s]
theorem le_mod {k : Nat} {n : Int} (h : 0 ≤ n) : le (n % 65536) 2 = le n 2 := by
  simp only [le, List.cons.injEq, and_true]
  constructor <;> omega
/-- a long number's bytes -/
def lg (n : Int) : List Int := if n ≤ 128 then le n 1 else if n < 65536 then 129 :: le n 2 else if n < 16777216 then 132 :: le n 3 else 136 :: le n 4
theorem index_Long_spec {n : Int} (h0 : 0 ≤ n) (h1 : n ≤ 4294967295) : index_Long n = some (lg n) := by
  unfold index_Long lg
  by_cases a1 : n ≤ 128
  · simp [a1, wrap_u8', le]
  · by_cases a2 : n < 65536
    · simp only [a1, a2, decide_true, decide_false, Bool.false_eq_true, if_true, if_false]
      rw [wrapu16 (by omega) (by omega), index_Two_spec (by omega) (by omega), Option.bind_some, grow_eq (by simp [le]) (by simp [le])]; rfl
    · by_cases a3 : n < 16777216
      · simp only [a1, a2, a3, decide_true, decide_false, Bool.false_eq_true, if_true, if_false]
        rw [index_Four_spec h0 h1, Option.bind_some, cutL_eq (by omega) (by omega) (by simp [le]), Option.bind_some, grow_eq (by simp [le]) (by simp [le])]; rfl
      · simp only [a1, a2, a3, decide_true, decide_false, Bool.false_eq_true, if_true, if_false]
        rw [index_Four_spec h0 h1, Option.bind_some, grow_eq (by simp [le]) (by simp [le])]; rfl
theorem ref_Long_spec {n : Int} (h0 : 0 ≤ n) (h1 : n ≤ 4294967295) : hansomref18_Long n = some (b2s (lg n)) := by
  unfold hansomref18_Long lg
  have w : IntKind.wrap .u64 n = n := by rw [wrap_u64']; omega
  have b : ∀ k : Nat, k ≤ 4 → hansomref18_Bytes n (k : Int) = some (b2s (le n k)) := fun k hk => Bytes_spec h0 (by omega) (by omega)
  have b1 : hansomref18_Bytes n 1 = _ := b 1 (by omega)
  have b2 : hansomref18_Bytes n 2 = _ := b 2 (by omega)
  have b3 : hansomref18_Bytes n 3 = _ := b 3 (by omega)
  have b4 : hansomref18_Bytes n 4 = _ := b 4 (by omega)
  rw [w]
  by_cases a1 : n ≤ 128
  · simp only [a1, decide_true, if_true]; rw [b1]; rfl
  · by_cases a2 : n < 65536
    · simp only [a1, a2, decide_true, decide_false, Bool.false_eq_true, if_true, if_false]
      rw [b2, Option.bind_some, catS_eq (by simp [b2s, le])]; rfl
    · by_cases a3 : n < 16777216
      · simp only [a1, a2, a3, decide_true, decide_false, Bool.false_eq_true, if_true, if_false]
        rw [b3, Option.bind_some, catS_eq (by simp [b2s, le])]; rfl
      · simp only [a1, a2, a3, decide_true, decide_false, Bool.false_eq_true, if_true, if_false]
        rw [b4, Option.bind_some, catS_eq (by simp [b2s, le])]; rfl
theorem index_Name_cut (s : List UInt8) : index_Name s = some (enc (s.take 255)) := by
  unfold index_Name
  rw [show (255 : Int) = ((255 : Nat) : Int) from rfl, cut_min, Option.bind_some, grow_eq (by simp [s2b]; omega) (by simp [s2b]; omega)]
  simp only [Option.bind_some, enc, wrapu8 (n := ((s.take 255).length : Int)) (by omega) (by simp; omega)]; rfl
theorem ref_Name_cut (s : List UInt8) : hansomref18_Name s = some (b2s (enc (s.take 255))) := by
  by_cases h : s.length ≤ 255
  · rw [ref_spec s h, List.take_of_length_le h]
  · unfold hansomref18_Name
    have : ((s.length : Int) > 255) := by omega
    simp only [this, decide_true, if_true]
    rw [show (255 : Int) = ((255 : Nat) : Int) from rfl, cut_to s (by omega), Option.bind_some, wrapu8 (n := ((s.take 255).length : Int)) (by omega) (by simp; omega), catS_eq (by simp [b2s]; omega)]
    simp only [Option.bind_some, enc, b2s_cons, b2s_s2b]; rfl

end Go.Es.Ixp
