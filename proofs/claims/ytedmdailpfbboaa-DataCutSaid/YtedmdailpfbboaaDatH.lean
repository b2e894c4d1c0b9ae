/- What is read of a record's bytes: in plain Lean. No condition. -/
import Derived.Test.YtedmdailpfbboaaDatP
set_option linter.unusedVariables false
set_option linter.unusedSimpArgs false
set_option maxHeartbeats 1000000
namespace Go.Es.Dat
theorem cut_min {α : Type} (l : List α) (k : Nat) : cutL l 0 (mnI (l.length : Int) (k : Int)) = some (l.take k) := by
  rw [mnI_eq, cutL_eq (by omega) (by omega) (by omega)]
  have : (min (l.length : Int) (k : Int)).toNat = min l.length k := by omega
  simp only [Int.toNat_zero, List.drop_zero, Nat.sub_zero, this]
  congr 1
  by_cases h : k ≤ l.length
  · rw [Nat.min_eq_right h]
  · rw [Nat.min_eq_left (by omega), List.take_of_length_le (by omega), List.take_of_length_le (by omega)]
theorem cut_to {α : Type} (l : List α) {k : Nat} (h : k ≤ l.length) : cutL l 0 (k : Int) = some (l.take k) := by
  rw [cutL_eq (by omega) (by omega) (by omega)]; simp
theorem b2s_s2b (s : List UInt8) : b2s (s2b s) = s := by
  simp only [b2s, s2b, List.map_map]
  conv => rhs; rw [← List.map_id s]
  apply List.map_congr_left
  intro c _
  simp
theorem s2b_b2s {l : List Int} (h : ∀ c ∈ l, wfI .u8 c) : s2b (b2s l) = l := by
  simp only [b2s, s2b, List.map_map]
  conv => rhs; rw [← List.map_id l]
  apply List.map_congr_left
  intro c hc
  obtain ⟨h0, h1⟩ := wfI_u8.1 (h c hc)
  simp only [Function.comp, id, UInt8.toNat_ofNat']
  omega
theorem b2s_append (a b : List Int) : b2s (a ++ b) = b2s a ++ b2s b := by simp [b2s]
theorem b2s_cons (a : Int) (b : List Int) : b2s (a :: b) = UInt8.ofNat a.toNat :: b2s b := rfl
theorem s2b_append (a b : List UInt8) : s2b (a ++ b) = s2b a ++ s2b b := by simp [s2b]
theorem s2b_length (s : List UInt8) : (s2b s).length = s.length := by simp [s2b]
theorem b2s_length (s : List Int) : (b2s s).length = s.length := by simp [b2s]
theorem s2b_take (s : List UInt8) (k : Nat) : s2b (s.take k) = (s2b s).take k := by simp [s2b, List.map_take]
theorem s2b_wf (s : List UInt8) : ∀ c ∈ s2b s, wfI .u8 c := by
  intro c hc
  simp only [s2b, List.mem_map] at hc
  obtain ⟨x, _, rfl⟩ := hc
  have := x.toNat_lt
  exact wfI_u8.2 ⟨by omega, by omega⟩

/-! ### sources -/
theorem from_spec (b : List Int) (h : b.length ≤ 2 ^ 40) : index_From b = some ⟨b, 0⟩ := by
  unfold index_From
  rw [grow_eq (by simp; omega) (by simp; omega)]; rfl
theorem take_ok (s : Source) {n : Int} (h0 : 0 ≤ n) (h1 : n ≤ (s.b.length : Int)) : index_Source_Take s n = some (s.b.take n.toNat, ⟨s.b.drop n.toNat, s.e⟩) := by
  unfold index_Source_Take
  have e1 : ¬ n < 0 := by omega
  have e2 : ¬ n > (s.b.length : Int) := by omega
  simp only [e1, e2, decide_false, Bool.false_eq_true, if_false]
  rw [cut3_eq (by omega) h0 (by omega) h1, cutL_eq h0 h1 (by omega)]
  simp only [Option.bind_some, Int.toNat_zero, List.drop_zero, Nat.sub_zero, Int.toNat_natCast]
  have hd : List.take (s.b.length - n.toNat) (List.drop n.toNat s.b) = List.drop n.toNat s.b := List.take_of_length_le (by rw [List.length_drop]; omega)
  rw [hd]
theorem take_short (b : List Int) {n : Int} (h : n < 0 ∨ (b.length : Int) < n) : index_Source_Take ⟨b, 0⟩ n = some ([], ⟨[], 2⟩) := by
  unfold index_Source_Take
  rcases h with h | h
  · simp [h, index_Source_Wrong]
  · by_cases h0 : n < 0
    · simp [h0, index_Source_Wrong]
    · simp [h0, h, index_Source_Wrong]
theorem byte_cons (c : Int) (r : List Int) (e : Int) : index_Source_Byte ⟨c :: r, e⟩ = some (c, ⟨r, e⟩) := by
  unfold index_Source_Byte
  rw [take_ok _ (by omega) (by simp only [List.length_cons]; omega)]
  simp [idx]
theorem byte_nil : index_Source_Byte ⟨[], 0⟩ = some (0, ⟨[], 2⟩) := by
  unfold index_Source_Byte
  rw [take_short _ (by simp)]
  simp
theorem byte_end (e : Int) (he : e ≠ 0) : index_Source_Byte ⟨[], e⟩ = some (0, ⟨[], e⟩) := by
  unfold index_Source_Byte index_Source_Take
  simp [index_Source_Wrong, he]
theorem end_spec (b : List Int) (e : Int) : index_Source_End ⟨b, e⟩ = some (if b = [] ∨ e ≠ 0 then (e, ⟨b, e⟩) else (3, ⟨[], 3⟩)) := by
  unfold index_Source_End index_Source_Left index_Source_Err index_Source_Wrong
  cases b with
  | nil => simp
  | cons x r =>
    by_cases he : e = 0
    · have : ¬ ((r.length : Int) + 1 ≤ 0) := by omega
      simp [he, this]
    · have : ¬ ((r.length : Int) + 1 ≤ 0) := by omega
      simp [he, this]

/-! ### names -/
/-- a name's bytes -/
def enc (s : List UInt8) : List Int := (s.length : Int) :: s2b s
theorem enc_length (s : List UInt8) : (enc s).length = s.length + 1 := by simp [enc, s2b]

/-! ### bytes -/
theorem wrap_u8' (n : Int) : IntKind.wrap .u8 n = n % 256 := by simp [IntKind.wrap, IntKind.bits, IntKind.signed]
theorem or128 {x : Int} (h0 : 0 ≤ x) (h1 : x < 128) : bitsOp .or .u8 x 128 = x + 128 := by
  have : ∀ n : Fin 128, bitsOp .or .u8 (n.val : Int) 128 = (n.val : Int) + 128 := by decide
  have := this ⟨x.toNat, by omega⟩
  simp only at this
  rw [Int.toNat_of_nonneg h0] at this
  exact this
/-- the low bytes of a number -/
def le : Int → Nat → List Int
  | _, 0 => []
  | n, k + 1 => n % 256 :: le (n / 256) k
theorem le_length (n : Int) (k : Nat) : (le n k).length = k := by
  induction k generalizing n with
  | zero => rfl
  | succ k ih => simp [le, ih]
/-- an index's bytes -/
def ix (n : Int) : List Int := if n < 0 ∨ 32767 < n then [0] else if n < 128 then [n] else [n / 256 + 128, n % 256]
theorem index_Put_spec (n : Int) : index_Put n = some (ix n) := by
  unfold index_Put ix
  by_cases h0 : n < 0
  · simp [h0]
  · by_cases h1 : n > 32767
    · simp [h0, h1]
    · by_cases h2 : n < 128
      · simp [h0, h1, h2, wrapu8 (n := n) (by omega) (by omega)]
      · simp only [h0, h1, h2, decide_false, Bool.false_eq_true, if_false, show ¬ (n < 0 ∨ 32767 < n) from by omega]
        have e : shrI .i64 n 8 = n / 256 := shr_eq (j := 8) (by decide)
        rw [e, wrapu8 (n := n / 256) (by omega) (by omega), or128 (by omega) (by omega), wrap_u8']; simp only [or_self, if_false]
/-! ### words and indexes that are read -/
theorem or_i64 {x y : Int} (j : Nat) (a : Nat) (hx : x = ((2 ^ j * a : Nat) : Int)) (hb : 2 ^ j * a + 2 ^ j ≤ 2 ^ 62) (h0 : 0 ≤ y) (h1 : y < (2 ^ j : Nat)) : bitsOp .or .i64 x y = x + y := by
  have e : bitsOp .or .i64 x y = IntKind.wrap .i64 (((BitVec.ofInt 64 x ||| BitVec.ofInt 64 y).toNat : Nat) : Int) := rfl
  have e1 : (BitVec.ofInt 64 x).toNat = 2 ^ j * a := by rw [BitVec.toNat_ofInt]; omega
  have e2 : (BitVec.ofInt 64 y).toNat = y.toNat := by rw [BitVec.toNat_ofInt]; omega
  have h2 : y.toNat < 2 ^ j := by omega
  rw [e, BitVec.toNat_or, e1, e2, ← Nat.two_pow_add_eq_or_of_lt h2, wrap64 (by omega) (by omega)]
  omega
theorem and127 (x : Int) : bitsOp .and .i64 x 127 = x % 128 := and_mask x 7 (by omega)
theorem or_hi {x y : Int} (hx0 : 128 ≤ x) (hx : x ≤ 255) (h0 : 0 ≤ y) (h1 : y ≤ 255) : bitsOp .or .i64 (shlI .i64 (bitsOp .and .i64 x 127) 8) y = (x - 128) * 256 + y := by
  have e : shlI .i64 (bitsOp .and .i64 x 127) 8 = (x - 128) * 256 := by
    rw [and127, show x % 128 = x - 128 by omega]
    show IntKind.wrap .i64 ((x - 128) * 256) = _
    exact wrap64 (by omega) (by omega)
  rw [e, or_i64 8 (x - 128).toNat (by omega) (by omega) h0 (by omega)]
theorem index_one (c : Int) (r : List Int) (e : Int) (h0 : 0 ≤ c) (h1 : c < 128) : index_Source_Index ⟨c :: r, e⟩ = some (c, ⟨r, e⟩) := by
  unfold index_Source_Index
  rw [byte_cons, Option.bind_some]
  simp only [wrap64 (n := c) (by omega) (by omega), h1, decide_true, if_true]
theorem index_two (c d : Int) (r : List Int) (h0 : 128 ≤ c) (h1 : c ≤ 255) (h2 : 0 ≤ d) (h3 : d ≤ 255) : index_Source_Index ⟨c :: d :: r, 0⟩ = some ((c - 128) * 256 + d, ⟨r, 0⟩) := by
  unfold index_Source_Index
  rw [byte_cons, Option.bind_some]
  simp only [wrap64 (n := c) (by omega) (by omega), show ¬ c < 128 by omega, decide_false, Bool.false_eq_true, if_false]
  rw [byte_cons, Option.bind_some]
  simp only [index_Source_Err, Option.bind_some, wrap64 (n := d) (by omega) (by omega), or_hi h0 h1 h2 h3]
  rfl
theorem index_cut (c : Int) (h0 : 128 ≤ c) (h1 : c ≤ 255) : index_Source_Index ⟨[c], 0⟩ = some (0, ⟨[], 2⟩) := by
  unfold index_Source_Index
  rw [byte_cons, Option.bind_some]
  simp only [wrap64 (n := c) (by omega) (by omega), show ¬ c < 128 by omega, decide_false, Bool.false_eq_true, if_false]
  rw [byte_nil]; rfl
theorem index_nil : index_Source_Index ⟨[], 0⟩ = some (0, ⟨[], 2⟩) := by
  unfold index_Source_Index
  rw [byte_nil]; rfl
theorem index_end : index_Source_Index ⟨[], 2⟩ = some (0, ⟨[], 2⟩) := by
  unfold index_Source_Index
  rw [byte_end 2 (by decide)]; rfl
/-- what is read of any bytes -/
def rdIx : List Int → Option (Int × List Int)
  | [] => none
  | c :: r => if c < 128 then some (c, r) else match r with | [] => none | d :: r => some ((c - 128) * 256 + d, r)
theorem index_any (b : List Int) (h : ∀ c ∈ b, wfI .u8 c) : index_Source_Index ⟨b, 0⟩ = some (match rdIx b with | some (v, r) => (v, ⟨r, 0⟩) | none => (0, ⟨[], 2⟩)) := by
  match b, h with
  | [], _ => simp [rdIx, index_nil]
  | c :: r, h =>
    obtain ⟨c0, c1⟩ := wfI_u8.1 (h c (by simp))
    by_cases hc : c < 128
    · simp [rdIx, hc, index_one c r 0 c0 hc]
    · match r, h with
      | [], _ => simp [rdIx, hc, index_cut c (by omega) c1]
      | d :: r, h =>
        obtain ⟨d0, d1⟩ := wfI_u8.1 (h d (by simp))
        simp [rdIx, hc, index_two c d r (by omega) c1 d0 d1]
theorem rdIx_len {b : List Int} {v : Int} {r : List Int} (h : rdIx b = some (v, r)) : r.length + 1 ≤ b.length ∧ ∀ c ∈ r, c ∈ b := by
  cases b with
  | nil => simp [rdIx] at h
  | cons c t =>
    by_cases hc : c < 128
    · simp only [rdIx, hc, if_true, Option.some.injEq, Prod.mk.injEq] at h
      obtain ⟨rfl, rfl⟩ := h
      exact ⟨by simp, fun c hc => by simp [hc]⟩
    · cases t with
      | nil => simp [rdIx, hc] at h
      | cons d t =>
        simp only [rdIx, hc, if_false, Option.some.injEq, Prod.mk.injEq] at h
        obtain ⟨rfl, rfl⟩ := h
        exact ⟨by simp, fun c hc => by simp [hc]⟩
theorem rdIx_lo {b : List Int} {v : Int} {r : List Int} (hb : ∀ c ∈ b, wfI .u8 c) (h : rdIx b = some (v, r)) : 0 ≤ v ∧ v ≤ 32767 := by
  cases b with
  | nil => simp [rdIx] at h
  | cons c t =>
    obtain ⟨c0, c1⟩ := wfI_u8.1 (hb c (by simp))
    by_cases hc : c < 128
    · simp only [rdIx, hc, if_true, Option.some.injEq, Prod.mk.injEq] at h
      obtain ⟨rfl, rfl⟩ := h
      omega
    · cases t with
      | nil => simp [rdIx, hc] at h
      | cons d t =>
        obtain ⟨d0, d1⟩ := wfI_u8.1 (hb d (by simp))
        simp only [rdIx, hc, if_false, Option.some.injEq, Prod.mk.injEq] at h
        obtain ⟨rfl, rfl⟩ := h
        omega
theorem rdIx_ix {n : Int} (h0 : 0 ≤ n) (h1 : n ≤ 32767) (r : List Int) : rdIx (ix n ++ r) = some (n, r) := by
  unfold ix
  rw [if_neg (by omega)]
  by_cases h : n < 128
  · simp [h, rdIx]
  · have : ¬ (n / 256 + 128 < 128) := by omega
    simp only [h, if_false, List.cons_append, List.nil_append, rdIx, this]
    simp only [Option.some.injEq, Prod.mk.injEq, and_true]; omega
theorem ix_wf (n : Int) : ∀ c ∈ ix n, wfI .u8 c := by
  intro c hc
  unfold ix at hc
  split at hc
  · simp only [List.mem_singleton] at hc; subst hc; exact wfI_u8.2 ⟨by omega, by omega⟩
  · split at hc
    · simp only [List.mem_singleton] at hc; subst hc; exact wfI_u8.2 ⟨by omega, by omega⟩
    · simp only [List.mem_cons, List.not_mem_nil, or_false] at hc
      rcases hc with rfl | rfl
      · exact wfI_u8.2 ⟨by omega, by omega⟩
      · exact wfI_u8.2 ⟨by omega, by omega⟩
theorem ix_len (n : Int) : 1 ≤ (ix n).length ∧ (ix n).length ≤ 2 := by
  unfold ix; split
  · simp
  · split <;> simp
theorem le_wf (n : Int) (k : Nat) : ∀ c ∈ le n k, wfI .u8 c := by
  induction k generalizing n with
  | zero => intro c hc; simp [le] at hc
  | succ k ih =>
    intro c hc
    simp only [le, List.mem_cons] at hc
    rcases hc with rfl | hc
    · exact wfI_u8.2 ⟨by omega, by omega⟩
    · exact ih _ c hc
theorem index_ix {n : Int} (h0 : 0 ≤ n) (h1 : n ≤ 32767) (r : List Int) (hr : ∀ c ∈ r, wfI .u8 c) : index_Source_Index ⟨ix n ++ r, 0⟩ = some (n, ⟨r, 0⟩) := by
  rw [index_any _ (fun c hc => by rcases List.mem_append.1 hc with hc | hc; exact ix_wf n c hc; exact hr c hc), rdIx_ix h0 h1]
theorem or_u16 {x y : Int} (j : Nat) (a : Nat) (hx : x = ((2 ^ j * a : Nat) : Int)) (hb : 2 ^ j * a + 2 ^ j ≤ 2 ^ 16) (h0 : 0 ≤ y) (h1 : y < (2 ^ j : Nat)) : bitsOp .or .u16 y x = y + x := by
  have e : bitsOp .or .u16 y x = IntKind.wrap .u16 (((BitVec.ofInt 16 y ||| BitVec.ofInt 16 x).toNat : Nat) : Int) := rfl
  have e1 : (BitVec.ofInt 16 x).toNat = 2 ^ j * a := by rw [BitVec.toNat_ofInt]; omega
  have e2 : (BitVec.ofInt 16 y).toNat = y.toNat := by rw [BitVec.toNat_ofInt]; omega
  have h2 : y.toNat < 2 ^ j := by omega
  rw [e, BitVec.toNat_or, e1, e2, Nat.or_comm, ← Nat.two_pow_add_eq_or_of_lt h2, wrapu16 (by omega) (by omega)]
  omega
theorem bits_Word_spec {l h : Int} (l0 : 0 ≤ l) (l1 : l ≤ 255) (h0 : 0 ≤ h) (h1 : h ≤ 255) : bits_Word l h = some (l + h * 256) := by
  unfold bits_Word
  have e : shlI .u16 (IntKind.wrap .u16 h) 8 = h * 256 := by
    rw [wrapu16 (by omega) (by omega)]
    show IntKind.wrap .u16 (h * 256) = _
    exact wrapu16 (by omega) (by omega)
  rw [e, wrapu16 (n := l) (by omega) (by omega), or_u16 8 h.toNat (by omega) (by omega) l0 (by omega)]
theorem word_cons (c d : Int) (r : List Int) (e : Int) (c0 : wfI .u8 c) (d0 : wfI .u8 d) : index_Source_Word ⟨c :: d :: r, e⟩ = some (c + d * 256, ⟨r, e⟩) := by
  obtain ⟨c0, c1⟩ := wfI_u8.1 c0
  obtain ⟨d0, d1⟩ := wfI_u8.1 d0
  unfold index_Source_Word
  rw [take_ok _ (by omega) (by simp only [List.length_cons]; omega)]
  simp [idx, bits_Word_spec c0 c1 d0 d1]
theorem word_short (b : List Int) (h : b.length < 2) : index_Source_Word ⟨b, 0⟩ = some (0, ⟨[], 2⟩) := by
  unfold index_Source_Word
  rw [take_short _ (by omega)]
  simp
theorem word_end : index_Source_Word ⟨[], 2⟩ = some (0, ⟨[], 2⟩) := by
  unfold index_Source_Word index_Source_Take
  simp [index_Source_Wrong]
theorem word_le {w : Int} (h0 : 0 ≤ w) (h1 : w ≤ 65535) (r : List Int) : index_Source_Word ⟨le w 2 ++ r, 0⟩ = some (w, ⟨r, 0⟩) := by
  have := word_cons (w % 256) (w / 256 % 256) r 0 (le_wf w 2 _ (by simp [le])) (le_wf w 2 _ (by simp [le]))
  simp only [le, List.cons_append, List.nil_append, this, Option.some.injEq, Prod.mk.injEq, and_true]
  omega
def rdW : List Int → Option (Int × List Int)
  | c :: d :: r => some (c + d * 256, r)
  | _ => none
theorem word_any (b : List Int) (h : ∀ c ∈ b, wfI .u8 c) : index_Source_Word ⟨b, 0⟩ = some (match rdW b with | some (v, r) => (v, ⟨r, 0⟩) | none => (0, ⟨[], 2⟩)) := by
  match b, h with
  | [], _ => simp [rdW, word_short]
  | [c], _ => simp [rdW, word_short]
  | c :: d :: r, h => simp [rdW, word_cons c d r 0 (h c (by simp)) (h d (by simp))]
theorem rdW_len {b : List Int} {v : Int} {r : List Int} (h : rdW b = some (v, r)) : r.length + 2 = b.length ∧ ∀ c ∈ r, c ∈ b := by
  match b, h with
  | c :: d :: t, h => cases h; exact ⟨by simp, fun c hc => by simp [hc]⟩
theorem rdW_lo {b : List Int} {v : Int} {r : List Int} (hb : ∀ c ∈ b, wfI .u8 c) (h : rdW b = some (v, r)) : 0 ≤ v ∧ v ≤ 65535 := by
  match b, hb, h with
  | c :: d :: t, hb, h =>
    obtain ⟨c0, c1⟩ := wfI_u8.1 (hb c (by simp))
    obtain ⟨d0, d1⟩ := wfI_u8.1 (hb d (by simp))
    cases h; omega
theorem index_Two_spec {w : Int} (h0 : 0 ≤ w) (h1 : w ≤ 65535) : index_Two w = some (le w 2) := by
  unfold index_Two bits_Low bits_High
  have e : shrI .u16 w 8 = w / 256 := shr_eq (j := 8) (by decide)
  simp only [Option.bind_some, e, wrap_u8', le]
theorem ref_Index_spec (n : Int) : hansomref18_Index n = some (b2s (ix n)) := by
  unfold hansomref18_Index ix
  by_cases h0 : n < 0
  · simp only [h0, decide_true, if_true, true_or]; rfl
  · by_cases h1 : n > 32767
    · simp only [h0, h1, decide_true, decide_false, Bool.false_eq_true, if_true, if_false, or_true]; rfl
    · simp only [h0, h1, decide_false, Bool.false_eq_true, if_false, show ¬ (n < 0 ∨ 32767 < n) from by omega]
      unfold hansomref18_Index_j8
      by_cases h2 : n < 128
      · simp [h2, wrapu8 (n := n) (by omega) (by omega)]
      · simp only [h2, decide_false, Bool.false_eq_true, if_false, Int.tdiv_eq_ediv_of_nonneg (show 0 ≤ n by omega), Int.tmod_eq_emod_of_nonneg (show 0 ≤ n by omega)]
        rw [wrap64 (n := n / 256) (by omega) (by omega), wrap64 (n := n / 256 + 128) (by omega) (by omega), wrapu8 (by omega) (by omega), wrapu8 (by omega) (by omega)]; simp only [or_self, if_false]
theorem Bytes_spec {n : Int} {k : Nat} (h0 : 0 ≤ n) (h1 : n ≤ 18446744073709551615) (hk : k ≤ 1000) : hansomref18_Bytes n (k : Int) = some (b2s (le n k)) := by
  unfold hansomref18_Bytes
  rw [loop_to (f := fun x : Int × List UInt8 × Int => hansomref18_Bytes_l8 x.1 (k : Int) x.2.1 x.2.2) (fun x => x.2.1 ++ b2s (le x.1 (k - x.2.2.toNat)))
    (fun x => 0 ≤ x.1 ∧ x.1 ≤ 18446744073709551615 ∧ 0 ≤ x.2.2 ∧ x.2.2 ≤ k ∧ (x.2.1.length : Int) = x.2.2) (fun x => (k - x.2.2).toNat) (fun x hx => ?_) ⟨h0, h1, by simp, by simp, by simp⟩]
  · simp
  · obtain ⟨m, s, i⟩ := x
    obtain ⟨a0, a1, a2, a3, a4⟩ := hx
    simp only at a0 a1 a2 a3 a4 ⊢
    unfold hansomref18_Bytes_l8
    by_cases hi : i < (k : Int)
    · left
      rw [Int.tdiv_eq_ediv_of_nonneg a0, Int.tmod_eq_emod_of_nonneg a0, wrapu8 (n := m % 256) (by omega) (by omega), wrap64 (n := i + 1) (by omega) (by omega), wrap_u64', catS_eq (by simp [b2s]; omega)]
      simp only [hi, decide_true, if_true, Option.bind_some]
      have e : k - i.toNat = (k - (i + 1).toNat) + 1 := by omega
      refine ⟨_, rfl, ⟨by simp only; omega, by simp only; omega, by simp only; omega, by simp only; omega, by simp only [List.length_append, b2s_length, List.length_cons, List.length_nil]; omega⟩, by simp only; omega, ?_⟩
      simp only [e, le, b2s_cons, List.append_assoc]
      rw [show m / 256 % 18446744073709551616 = m / 256 by omega]
      rfl
    · right
      have e : k - i.toNat = 0 := by omega
      simp [hi, e, le, b2s]
theorem le_mod {k : Nat} {n : Int} (h : 0 ≤ n) : le (n % 65536) 2 = le n 2 := by
  simp only [le, List.cons.injEq, and_true]
  constructor <;> omega
/-! ### data -/
def mayD (s o : Int) (b : List Int) : Bool := decide (1 ≤ s ∧ s ≤ 32767 ∧ 1 ≤ b.length ∧ b.length ≤ 1024 ∧ o + b.length ≤ 65536)
theorem may_spec (s o : Int) (b : List Int) (f : List Fixup) (h0 : 0 ≤ o) (h1 : o ≤ 65535) : data_May ⟨s, o, b, f⟩ = some (mayD s o b) := by
  unfold data_May
  by_cases a1 : s ≥ 1
  · by_cases a2 : s ≤ 32767
    · by_cases a3 : (b.length : Int) ≥ 1
      · by_cases a4 : (b.length : Int) ≤ 1024
        · simp only [a1, a2, a3, a4, decide_true, if_true]
          rw [wrap64 (n := o) (by omega) (by omega), wrap64 (n := 65536 - (b.length : Int)) (by omega) (by omega)]
          refine congrArg some ?_
          unfold mayD
          exact decide_eq_decide.2 (by omega)
        · simp only [a1, a2, a3, a4, decide_true, decide_false, Bool.false_eq_true, if_true, if_false]
          exact congrArg some (decide_eq_false (by omega)).symm
      · simp only [a1, a2, a3, decide_true, decide_false, Bool.false_eq_true, if_true, if_false]
        exact congrArg some (decide_eq_false (by omega)).symm
    · simp only [a1, a2, decide_true, decide_false, Bool.false_eq_true, if_true, if_false]
      exact congrArg some (decide_eq_false (by omega)).symm
  · simp only [a1, decide_false, Bool.false_eq_true, if_false]
    exact congrArg some (decide_eq_false (by omega)).symm
theorem clone_spec (b : List Int) (h : b.length ≤ 2 ^ 40) : slices_Clone_Lbyte b = some b := by
  unfold slices_Clone_Lbyte
  rw [grow_eq (by simp; omega) (by simp; omega)]; rfl
def noD : Data := ⟨0, 0, [], []⟩
def getD (b : List Int) : Data × Int :=
  match rdIx b with
  | none => (noD, 2)
  | some (v, r) => match rdW r with
    | none => (noD, 2)
    | some (w, t) => if mayD v w t then (⟨v, w, t, []⟩, 0) else (noD, 3)
theorem take_left (b : List Int) (e : Int) : index_Source_Take ⟨b, e⟩ (b.length : Int) = some (b, ⟨[], e⟩) := by
  rw [take_ok _ (by omega) (by simp)]
  simp
theorem get_spec (b : List Int) (h : ∀ c ∈ b, wfI .u8 c) (hl : b.length ≤ 2 ^ 40) : data_Get b = some (getD b) := by
  unfold data_Get getD
  rw [from_spec b hl, Option.bind_some, index_any b h, Option.bind_some]
  cases h1 : rdIx b with
  | none =>
    simp only [word_end, Option.bind_some, index_Source_Left]
    rw [take_left [] 2]
    simp only [Option.bind_some, clone_spec [] (by simp), index_Source_Err, end_spec]
    simp [noD]
  | some x =>
    obtain ⟨v, r⟩ := x
    obtain ⟨l1, m1⟩ := rdIx_len h1
    simp only
    rw [word_any r (fun c hc => h c (m1 c hc)), Option.bind_some]
    cases h2 : rdW r with
    | none =>
      simp only [Option.bind_some, index_Source_Left]
      rw [take_left [] 2]
      simp only [Option.bind_some, clone_spec [] (by simp), index_Source_Err, end_spec]
      simp [noD]
    | some y =>
      obtain ⟨w, t⟩ := y
      obtain ⟨l2, m2⟩ := rdW_len h2
      obtain ⟨w0, w1⟩ := rdW_lo (fun c hc => h c (m1 c hc)) h2
      simp only [Option.bind_some, index_Source_Left]
      rw [take_left t 0]
      simp only [Option.bind_some, clone_spec t (by omega), index_Source_Err, end_spec, beq_self_eq_true, if_true, may_spec v w t [] w0 w1]
      cases hm : mayD v w t <;> simp [index_Source_Wrong, noD, end_spec]
theorem put_spec (s o : Int) (b : List Int) (f : List Fixup) (h0 : 0 ≤ o) (h1 : o ≤ 65535) : data_Put ⟨s, o, b, f⟩ = some (if mayD s o b then (⟨160, ix s ++ le o 2 ++ b⟩, true) else (⟨0, []⟩, false)) := by
  unfold data_Put
  rw [may_spec s o b f h0 h1, Option.bind_some]
  cases hm : mayD s o b
  · simp
  · have hb : b.length ≤ 1024 := by simp only [mayD, decide_eq_true_eq] at hm; omega
    have hi := (ix_len s).2
    simp only [Bool.not_true, Bool.false_eq_true, if_false, index_Put_spec, index_Two_spec h0 h1, Option.bind_some, if_true]
    rw [grow_eq (by simp [le]; omega) (by simp [le]; omega), Option.bind_some, grow_eq (by simp [le]; omega) (by simp [le]; omega)]
    rfl
theorem get_put (s o : Int) (b : List Int) (h0 : 0 ≤ o) (h1 : o ≤ 65535) (hm : mayD s o b = true) : getD (ix s ++ le o 2 ++ b) = (⟨s, o, b, []⟩, 0) := by
  have hs : 1 ≤ s ∧ s ≤ 32767 := by simp only [mayD, decide_eq_true_eq] at hm; omega
  unfold getD
  rw [List.append_assoc, rdIx_ix (by omega) (by omega)]
  have : rdW (le o 2 ++ b) = some (o, b) := by
    simp only [le, List.cons_append, List.nil_append, rdW, Option.some.injEq, Prod.mk.injEq, and_true]; omega
  simp [this, hm]
theorem awake_true : hansomlaw23_awake = some true := by
  unfold hansomlaw23_awake
  have hm : mayD 1 5 [7] = true := by decide
  have hm2 : mayD 1 0 [] = false := by decide
  rw [put_spec 1 5 [7] [] (by omega) (by omega), hm]
  simp only [Option.bind_some, if_true]
  rw [get_spec _ (by
    intro c hc
    rcases List.mem_append.1 hc with hc | hc
    · rcases List.mem_append.1 hc with hc | hc
      · exact ix_wf _ _ hc
      · exact le_wf _ _ _ hc
    · simp at hc; subst hc; exact wfI_u8.2 ⟨by omega, by omega⟩) (by simp [le]; have := (ix_len 1).2; omega), get_put 1 5 [7] (by omega) (by omega) hm, may_spec 1 0 [] [] (by omega) (by omega), hm2]
  rfl
theorem getD_cases (b : List Int) (h : ∀ c ∈ b, wfI .u8 c) : (∃ e, getD b = (noD, e) ∧ (e = 2 ∨ e = 3)) ∨
    ∃ v w t, getD b = (⟨v, w, t, []⟩, 0) ∧ mayD v w t = true ∧ 0 ≤ w ∧ w ≤ 65535 ∧ t.length + 3 ≤ b.length := by
  unfold getD
  rcases h1 : rdIx b with _ | ⟨v, r⟩
  · exact .inl ⟨2, rfl, .inl rfl⟩
  · obtain ⟨l1, m1⟩ := rdIx_len h1
    rcases h2 : rdW r with _ | ⟨w', t⟩
    · exact .inl ⟨2, by simp only [h2], .inl rfl⟩
    · obtain ⟨l2, m2⟩ := rdW_len h2
      obtain ⟨w0, w1⟩ := rdW_lo (fun c hc => h c (m1 c hc)) h2
      rcases hm : mayD v w' t with _ | _
      · exact .inl ⟨3, by simp [h2, hm], .inr rfl⟩
      · exact .inr ⟨v, w', t, by simp [h2, hm], hm, w0, w1, by omega⟩

end Go.Es.Dat
