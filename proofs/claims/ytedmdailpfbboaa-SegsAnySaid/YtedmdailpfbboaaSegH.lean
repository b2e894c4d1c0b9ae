/- What is read of a record's bytes: in plain Lean. No condition. -/
import Derived.Test.YtedmdailpfbboaaSegP
set_option linter.unusedVariables false
set_option linter.unusedSimpArgs false
set_option maxHeartbeats 1000000
namespace Go.Es.Seg
theorem cut_min {α : Type} (l : List α) (k : Nat) : cutL l 0 (mnI (l.length : Int) (k : Int)) = some (l.take k) := by
  rw [mnI_eq, cutL_eq (by omega) (by omega) (by omega)]
  have : (min (l.length : Int) (k : Int)).toNat = min l.length k := by omega
  simp only [Int.toNat_zero, List.drop_zero, Nat.sub_zero, this]
  congr 1
  by_cases h : k ≤ l.length
  · rw [Nat.min_eq_right h]
  · rw [Nat.min_eq_left (by omega), List.take_of_length_le (by omega), List.take_of_length_le (by omega)]
theorem cut_to {α : Type} (l : List α) {k : Nat} (h : k ≤ l.length) : cutL l 0 (k : Int) = some (l.take k) := by
  rw [cutL_eq (by omega) (by omega) (by omega)]; simp
theorem b2s_s2b (s : List UInt8) : b2s (s2b s) = s := by
  simp only [b2s, s2b, List.map_map]
  conv => rhs; rw [← List.map_id s]
  apply List.map_congr_left
  intro c _
  simp
theorem s2b_b2s {l : List Int} (h : ∀ c ∈ l, wfI .u8 c) : s2b (b2s l) = l := by
  simp only [b2s, s2b, List.map_map]
  conv => rhs; rw [← List.map_id l]
  apply List.map_congr_left
  intro c hc
  obtain ⟨h0, h1⟩ := wfI_u8.1 (h c hc)
  simp only [Function.comp, id, UInt8.toNat_ofNat']
  omega
theorem b2s_append (a b : List Int) : b2s (a ++ b) = b2s a ++ b2s b := by simp [b2s]
theorem b2s_cons (a : Int) (b : List Int) : b2s (a :: b) = UInt8.ofNat a.toNat :: b2s b := rfl
theorem s2b_append (a b : List UInt8) : s2b (a ++ b) = s2b a ++ s2b b := by simp [s2b]
theorem s2b_length (s : List UInt8) : (s2b s).length = s.length := by simp [s2b]
theorem b2s_length (s : List Int) : (b2s s).length = s.length := by simp [b2s]
theorem s2b_take (s : List UInt8) (k : Nat) : s2b (s.take k) = (s2b s).take k := by simp [s2b, List.map_take]
theorem s2b_wf (s : List UInt8) : ∀ c ∈ s2b s, wfI .u8 c := by
  intro c hc
  simp only [s2b, List.mem_map] at hc
  obtain ⟨x, _, rfl⟩ := hc
  have := x.toNat_lt
  exact wfI_u8.2 ⟨by omega, by omega⟩

/-! ### sources -/
theorem from_spec (b : List Int) (h : b.length ≤ 2 ^ 40) : index_From b = some ⟨b, 0⟩ := by
  unfold index_From
  rw [grow_eq (by simp; omega) (by simp; omega)]; rfl
theorem take_ok (s : Source) {n : Int} (h0 : 0 ≤ n) (h1 : n ≤ (s.b.length : Int)) : index_Source_Take s n = some (s.b.take n.toNat, ⟨s.b.drop n.toNat, s.e⟩) := by
  unfold index_Source_Take
  have e1 : ¬ n < 0 := by omega
  have e2 : ¬ n > (s.b.length : Int) := by omega
  simp only [e1, e2, decide_false, Bool.false_eq_true, if_false]
  rw [cut3_eq (by omega) h0 (by omega) h1, cutL_eq h0 h1 (by omega)]
  simp only [Option.bind_some, Int.toNat_zero, List.drop_zero, Nat.sub_zero, Int.toNat_natCast]
  have hd : List.take (s.b.length - n.toNat) (List.drop n.toNat s.b) = List.drop n.toNat s.b := List.take_of_length_le (by rw [List.length_drop]; omega)
  rw [hd]
theorem take_short (b : List Int) {n : Int} (h : n < 0 ∨ (b.length : Int) < n) : index_Source_Take ⟨b, 0⟩ n = some ([], ⟨[], 2⟩) := by
  unfold index_Source_Take
  rcases h with h | h
  · simp [h, index_Source_Wrong]
  · by_cases h0 : n < 0
    · simp [h0, index_Source_Wrong]
    · simp [h0, h, index_Source_Wrong]
theorem byte_cons (c : Int) (r : List Int) (e : Int) : index_Source_Byte ⟨c :: r, e⟩ = some (c, ⟨r, e⟩) := by
  unfold index_Source_Byte
  rw [take_ok _ (by omega) (by simp only [List.length_cons]; omega)]
  simp [idx]
theorem byte_nil : index_Source_Byte ⟨[], 0⟩ = some (0, ⟨[], 2⟩) := by
  unfold index_Source_Byte
  rw [take_short _ (by simp)]
  simp
theorem byte_end (e : Int) (he : e ≠ 0) : index_Source_Byte ⟨[], e⟩ = some (0, ⟨[], e⟩) := by
  unfold index_Source_Byte index_Source_Take
  simp [index_Source_Wrong, he]
theorem end_spec (b : List Int) (e : Int) : index_Source_End ⟨b, e⟩ = some (if b = [] ∨ e ≠ 0 then (e, ⟨b, e⟩) else (3, ⟨[], 3⟩)) := by
  unfold index_Source_End index_Source_Left index_Source_Err index_Source_Wrong
  cases b with
  | nil => simp
  | cons x r =>
    by_cases he : e = 0
    · have : ¬ ((r.length : Int) + 1 ≤ 0) := by omega
      simp [he, this]
    · have : ¬ ((r.length : Int) + 1 ≤ 0) := by omega
      simp [he, this]

/-! ### names -/
/-- a name's bytes -/
def enc (s : List UInt8) : List Int := (s.length : Int) :: s2b s
theorem enc_length (s : List UInt8) : (enc s).length = s.length + 1 := by simp [enc, s2b]

/-! ### bytes -/
theorem wrap_u8' (n : Int) : IntKind.wrap .u8 n = n % 256 := by simp [IntKind.wrap, IntKind.bits, IntKind.signed]
theorem or128 {x : Int} (h0 : 0 ≤ x) (h1 : x < 128) : bitsOp .or .u8 x 128 = x + 128 := by
  have : ∀ n : Fin 128, bitsOp .or .u8 (n.val : Int) 128 = (n.val : Int) + 128 := by decide
  have := this ⟨x.toNat, by omega⟩
  simp only at this
  rw [Int.toNat_of_nonneg h0] at this
  exact this
/-- the low bytes of a number -/
def le : Int → Nat → List Int
  | _, 0 => []
  | n, k + 1 => n % 256 :: le (n / 256) k
theorem le_length (n : Int) (k : Nat) : (le n k).length = k := by
  induction k generalizing n with
  | zero => rfl
  | succ k ih => simp [le, ih]
/-- an index's bytes -/
def ix (n : Int) : List Int := if n < 0 ∨ 32767 < n then [0] else if n < 128 then [n] else [n / 256 + 128, n % 256]
theorem index_Put_spec (n : Int) : index_Put n = some (ix n) := by
  unfold index_Put ix
  by_cases h0 : n < 0
  · simp [h0]
  · by_cases h1 : n > 32767
    · simp [h0, h1]
    · by_cases h2 : n < 128
      · simp [h0, h1, h2, wrapu8 (n := n) (by omega) (by omega)]
      · simp only [h0, h1, h2, decide_false, Bool.false_eq_true, if_false, show ¬ (n < 0 ∨ 32767 < n) from by omega]
        have e : shrI .i64 n 8 = n / 256 := shr_eq (j := 8) (by decide)
        rw [e, wrapu8 (n := n / 256) (by omega) (by omega), or128 (by omega) (by omega), wrap_u8']; simp only [or_self, if_false]
/-! ### words and indexes that are read -/
theorem or_i64 {x y : Int} (j : Nat) (a : Nat) (hx : x = ((2 ^ j * a : Nat) : Int)) (hb : 2 ^ j * a + 2 ^ j ≤ 2 ^ 62) (h0 : 0 ≤ y) (h1 : y < (2 ^ j : Nat)) : bitsOp .or .i64 x y = x + y := by
  have e : bitsOp .or .i64 x y = IntKind.wrap .i64 (((BitVec.ofInt 64 x ||| BitVec.ofInt 64 y).toNat : Nat) : Int) := rfl
  have e1 : (BitVec.ofInt 64 x).toNat = 2 ^ j * a := by rw [BitVec.toNat_ofInt]; omega
  have e2 : (BitVec.ofInt 64 y).toNat = y.toNat := by rw [BitVec.toNat_ofInt]; omega
  have h2 : y.toNat < 2 ^ j := by omega
  rw [e, BitVec.toNat_or, e1, e2, ← Nat.two_pow_add_eq_or_of_lt h2, wrap64 (by omega) (by omega)]
  omega
theorem and127 (x : Int) : bitsOp .and .i64 x 127 = x % 128 := and_mask x 7 (by omega)
theorem or_hi {x y : Int} (hx0 : 128 ≤ x) (hx : x ≤ 255) (h0 : 0 ≤ y) (h1 : y ≤ 255) : bitsOp .or .i64 (shlI .i64 (bitsOp .and .i64 x 127) 8) y = (x - 128) * 256 + y := by
  have e : shlI .i64 (bitsOp .and .i64 x 127) 8 = (x - 128) * 256 := by
    rw [and127, show x % 128 = x - 128 by omega]
    show IntKind.wrap .i64 ((x - 128) * 256) = _
    exact wrap64 (by omega) (by omega)
  rw [e, or_i64 8 (x - 128).toNat (by omega) (by omega) h0 (by omega)]
theorem index_one (c : Int) (r : List Int) (e : Int) (h0 : 0 ≤ c) (h1 : c < 128) : index_Source_Index ⟨c :: r, e⟩ = some (c, ⟨r, e⟩) := by
  unfold index_Source_Index
  rw [byte_cons, Option.bind_some]
  simp only [wrap64 (n := c) (by omega) (by omega), h1, decide_true, if_true]
theorem index_two (c d : Int) (r : List Int) (h0 : 128 ≤ c) (h1 : c ≤ 255) (h2 : 0 ≤ d) (h3 : d ≤ 255) : index_Source_Index ⟨c :: d :: r, 0⟩ = some ((c - 128) * 256 + d, ⟨r, 0⟩) := by
  unfold index_Source_Index
  rw [byte_cons, Option.bind_some]
  simp only [wrap64 (n := c) (by omega) (by omega), show ¬ c < 128 by omega, decide_false, Bool.false_eq_true, if_false]
  rw [byte_cons, Option.bind_some]
  simp only [index_Source_Err, Option.bind_some, wrap64 (n := d) (by omega) (by omega), or_hi h0 h1 h2 h3]
  rfl
theorem index_cut (c : Int) (h0 : 128 ≤ c) (h1 : c ≤ 255) : index_Source_Index ⟨[c], 0⟩ = some (0, ⟨[], 2⟩) := by
  unfold index_Source_Index
  rw [byte_cons, Option.bind_some]
  simp only [wrap64 (n := c) (by omega) (by omega), show ¬ c < 128 by omega, decide_false, Bool.false_eq_true, if_false]
  rw [byte_nil]; rfl
theorem index_nil : index_Source_Index ⟨[], 0⟩ = some (0, ⟨[], 2⟩) := by
  unfold index_Source_Index
  rw [byte_nil]; rfl
theorem index_end : index_Source_Index ⟨[], 2⟩ = some (0, ⟨[], 2⟩) := by
  unfold index_Source_Index
  rw [byte_end 2 (by decide)]; rfl
/-- what is read of any bytes -/
def rdIx : List Int → Option (Int × List Int)
  | [] => none
  | c :: r => if c < 128 then some (c, r) else match r with | [] => none | d :: r => some ((c - 128) * 256 + d, r)
theorem index_any (b : List Int) (h : ∀ c ∈ b, wfI .u8 c) : index_Source_Index ⟨b, 0⟩ = some (match rdIx b with | some (v, r) => (v, ⟨r, 0⟩) | none => (0, ⟨[], 2⟩)) := by
  match b, h with
  | [], _ => simp [rdIx, index_nil]
  | c :: r, h =>
    obtain ⟨c0, c1⟩ := wfI_u8.1 (h c (by simp))
    by_cases hc : c < 128
    · simp [rdIx, hc, index_one c r 0 c0 hc]
    · match r, h with
      | [], _ => simp [rdIx, hc, index_cut c (by omega) c1]
      | d :: r, h =>
        obtain ⟨d0, d1⟩ := wfI_u8.1 (h d (by simp))
        simp [rdIx, hc, index_two c d r (by omega) c1 d0 d1]
theorem rdIx_len {b : List Int} {v : Int} {r : List Int} (h : rdIx b = some (v, r)) : r.length + 1 ≤ b.length ∧ ∀ c ∈ r, c ∈ b := by
  cases b with
  | nil => simp [rdIx] at h
  | cons c t =>
    by_cases hc : c < 128
    · simp only [rdIx, hc, if_true, Option.some.injEq, Prod.mk.injEq] at h
      obtain ⟨rfl, rfl⟩ := h
      exact ⟨by simp, fun c hc => by simp [hc]⟩
    · cases t with
      | nil => simp [rdIx, hc] at h
      | cons d t =>
        simp only [rdIx, hc, if_false, Option.some.injEq, Prod.mk.injEq] at h
        obtain ⟨rfl, rfl⟩ := h
        exact ⟨by simp, fun c hc => by simp [hc]⟩
theorem rdIx_lo {b : List Int} {v : Int} {r : List Int} (hb : ∀ c ∈ b, wfI .u8 c) (h : rdIx b = some (v, r)) : 0 ≤ v ∧ v ≤ 32767 := by
  cases b with
  | nil => simp [rdIx] at h
  | cons c t =>
    obtain ⟨c0, c1⟩ := wfI_u8.1 (hb c (by simp))
    by_cases hc : c < 128
    · simp only [rdIx, hc, if_true, Option.some.injEq, Prod.mk.injEq] at h
      obtain ⟨rfl, rfl⟩ := h
      omega
    · cases t with
      | nil => simp [rdIx, hc] at h
      | cons d t =>
        obtain ⟨d0, d1⟩ := wfI_u8.1 (hb d (by simp))
        simp only [rdIx, hc, if_false, Option.some.injEq, Prod.mk.injEq] at h
        obtain ⟨rfl, rfl⟩ := h
        omega
theorem rdIx_ix {n : Int} (h0 : 0 ≤ n) (h1 : n ≤ 32767) (r : List Int) : rdIx (ix n ++ r) = some (n, r) := by
  unfold ix
  rw [if_neg (by omega)]
  by_cases h : n < 128
  · simp [h, rdIx]
  · have : ¬ (n / 256 + 128 < 128) := by omega
    simp only [h, if_false, List.cons_append, List.nil_append, rdIx, this]
    simp only [Option.some.injEq, Prod.mk.injEq, and_true]; omega
theorem ix_wf (n : Int) : ∀ c ∈ ix n, wfI .u8 c := by
  intro c hc
  unfold ix at hc
  split at hc
  · simp only [List.mem_singleton] at hc; subst hc; exact wfI_u8.2 ⟨by omega, by omega⟩
  · split at hc
    · simp only [List.mem_singleton] at hc; subst hc; exact wfI_u8.2 ⟨by omega, by omega⟩
    · simp only [List.mem_cons, List.not_mem_nil, or_false] at hc
      rcases hc with rfl | rfl
      · exact wfI_u8.2 ⟨by omega, by omega⟩
      · exact wfI_u8.2 ⟨by omega, by omega⟩
theorem ix_len (n : Int) : 1 ≤ (ix n).length ∧ (ix n).length ≤ 2 := by
  unfold ix; split
  · simp
  · split <;> simp
theorem le_wf (n : Int) (k : Nat) : ∀ c ∈ le n k, wfI .u8 c := by
  induction k generalizing n with
  | zero => intro c hc; simp [le] at hc
  | succ k ih =>
    intro c hc
    simp only [le, List.mem_cons] at hc
    rcases hc with rfl | hc
    · exact wfI_u8.2 ⟨by omega, by omega⟩
    · exact ih _ c hc
theorem index_ix {n : Int} (h0 : 0 ≤ n) (h1 : n ≤ 32767) (r : List Int) (hr : ∀ c ∈ r, wfI .u8 c) : index_Source_Index ⟨ix n ++ r, 0⟩ = some (n, ⟨r, 0⟩) := by
  rw [index_any _ (fun c hc => by rcases List.mem_append.1 hc with hc | hc; exact ix_wf n c hc; exact hr c hc), rdIx_ix h0 h1]
theorem or_u16 {x y : Int} (j : Nat) (a : Nat) (hx : x = ((2 ^ j * a : Nat) : Int)) (hb : 2 ^ j * a + 2 ^ j ≤ 2 ^ 16) (h0 : 0 ≤ y) (h1 : y < (2 ^ j : Nat)) : bitsOp .or .u16 y x = y + x := by
  have e : bitsOp .or .u16 y x = IntKind.wrap .u16 (((BitVec.ofInt 16 y ||| BitVec.ofInt 16 x).toNat : Nat) : Int) := rfl
  have e1 : (BitVec.ofInt 16 x).toNat = 2 ^ j * a := by rw [BitVec.toNat_ofInt]; omega
  have e2 : (BitVec.ofInt 16 y).toNat = y.toNat := by rw [BitVec.toNat_ofInt]; omega
  have h2 : y.toNat < 2 ^ j := by omega
  rw [e, BitVec.toNat_or, e1, e2, Nat.or_comm, ← Nat.two_pow_add_eq_or_of_lt h2, wrapu16 (by omega) (by omega)]
  omega
theorem bits_Word_spec {l h : Int} (l0 : 0 ≤ l) (l1 : l ≤ 255) (h0 : 0 ≤ h) (h1 : h ≤ 255) : bits_Word l h = some (l + h * 256) := by
  unfold bits_Word
  have e : shlI .u16 (IntKind.wrap .u16 h) 8 = h * 256 := by
    rw [wrapu16 (by omega) (by omega)]
    show IntKind.wrap .u16 (h * 256) = _
    exact wrapu16 (by omega) (by omega)
  rw [e, wrapu16 (n := l) (by omega) (by omega), or_u16 8 h.toNat (by omega) (by omega) l0 (by omega)]
theorem word_cons (c d : Int) (r : List Int) (e : Int) (c0 : wfI .u8 c) (d0 : wfI .u8 d) : index_Source_Word ⟨c :: d :: r, e⟩ = some (c + d * 256, ⟨r, e⟩) := by
  obtain ⟨c0, c1⟩ := wfI_u8.1 c0
  obtain ⟨d0, d1⟩ := wfI_u8.1 d0
  unfold index_Source_Word
  rw [take_ok _ (by omega) (by simp only [List.length_cons]; omega)]
  simp [idx, bits_Word_spec c0 c1 d0 d1]
theorem word_short (b : List Int) (h : b.length < 2) : index_Source_Word ⟨b, 0⟩ = some (0, ⟨[], 2⟩) := by
  unfold index_Source_Word
  rw [take_short _ (by omega)]
  simp
theorem word_end : index_Source_Word ⟨[], 2⟩ = some (0, ⟨[], 2⟩) := by
  unfold index_Source_Word index_Source_Take
  simp [index_Source_Wrong]
theorem word_le {w : Int} (h0 : 0 ≤ w) (h1 : w ≤ 65535) (r : List Int) : index_Source_Word ⟨le w 2 ++ r, 0⟩ = some (w, ⟨r, 0⟩) := by
  have := word_cons (w % 256) (w / 256 % 256) r 0 (le_wf w 2 _ (by simp [le])) (le_wf w 2 _ (by simp [le]))
  simp only [le, List.cons_append, List.nil_append, this, Option.some.injEq, Prod.mk.injEq, and_true]
  omega
def rdW : List Int → Option (Int × List Int)
  | c :: d :: r => some (c + d * 256, r)
  | _ => none
theorem word_any (b : List Int) (h : ∀ c ∈ b, wfI .u8 c) : index_Source_Word ⟨b, 0⟩ = some (match rdW b with | some (v, r) => (v, ⟨r, 0⟩) | none => (0, ⟨[], 2⟩)) := by
  match b, h with
  | [], _ => simp [rdW, word_short]
  | [c], _ => simp [rdW, word_short]
  | c :: d :: r, h => simp [rdW, word_cons c d r 0 (h c (by simp)) (h d (by simp))]
theorem rdW_len {b : List Int} {v : Int} {r : List Int} (h : rdW b = some (v, r)) : r.length + 2 = b.length ∧ ∀ c ∈ r, c ∈ b := by
  match b, h with
  | c :: d :: t, h => cases h; exact ⟨by simp, fun c hc => by simp [hc]⟩
theorem rdW_lo {b : List Int} {v : Int} {r : List Int} (hb : ∀ c ∈ b, wfI .u8 c) (h : rdW b = some (v, r)) : 0 ≤ v ∧ v ≤ 65535 := by
  match b, hb, h with
  | c :: d :: t, hb, h =>
    obtain ⟨c0, c1⟩ := wfI_u8.1 (hb c (by simp))
    obtain ⟨d0, d1⟩ := wfI_u8.1 (hb d (by simp))
    cases h; omega
theorem index_Two_spec {w : Int} (h0 : 0 ≤ w) (h1 : w ≤ 65535) : index_Two w = some (le w 2) := by
  unfold index_Two bits_Low bits_High
  have e : shrI .u16 w 8 = w / 256 := shr_eq (j := 8) (by decide)
  simp only [Option.bind_some, e, wrap_u8', le]
theorem ref_Index_spec (n : Int) : hansomref18_Index n = some (b2s (ix n)) := by
  unfold hansomref18_Index ix
  by_cases h0 : n < 0
  · simp only [h0, decide_true, if_true, true_or]; rfl
  · by_cases h1 : n > 32767
    · simp only [h0, h1, decide_true, decide_false, Bool.false_eq_true, if_true, if_false, or_true]; rfl
    · simp only [h0, h1, decide_false, Bool.false_eq_true, if_false, show ¬ (n < 0 ∨ 32767 < n) from by omega]
      unfold hansomref18_Index_j8
      by_cases h2 : n < 128
      · simp [h2, wrapu8 (n := n) (by omega) (by omega)]
      · simp only [h2, decide_false, Bool.false_eq_true, if_false, Int.tdiv_eq_ediv_of_nonneg (show 0 ≤ n by omega), Int.tmod_eq_emod_of_nonneg (show 0 ≤ n by omega)]
        rw [wrap64 (n := n / 256) (by omega) (by omega), wrap64 (n := n / 256 + 128) (by omega) (by omega), wrapu8 (by omega) (by omega), wrapu8 (by omega) (by omega)]; simp only [or_self, if_false]
theorem Bytes_spec {n : Int} {k : Nat} (h0 : 0 ≤ n) (h1 : n ≤ 18446744073709551615) (hk : k ≤ 1000) : hansomref18_Bytes n (k : Int) = some (b2s (le n k)) := by
  unfold hansomref18_Bytes
  rw [loop_to (f := fun x : Int × List UInt8 × Int => hansomref18_Bytes_l8 x.1 (k : Int) x.2.1 x.2.2) (fun x => x.2.1 ++ b2s (le x.1 (k - x.2.2.toNat)))
    (fun x => 0 ≤ x.1 ∧ x.1 ≤ 18446744073709551615 ∧ 0 ≤ x.2.2 ∧ x.2.2 ≤ k ∧ (x.2.1.length : Int) = x.2.2) (fun x => (k - x.2.2).toNat) (fun x hx => ?_) ⟨h0, h1, by simp, by simp, by simp⟩]
  · simp
  · obtain ⟨m, s, i⟩ := x
    obtain ⟨a0, a1, a2, a3, a4⟩ := hx
    simp only at a0 a1 a2 a3 a4 ⊢
    unfold hansomref18_Bytes_l8
    by_cases hi : i < (k : Int)
    · left
      rw [Int.tdiv_eq_ediv_of_nonneg a0, Int.tmod_eq_emod_of_nonneg a0, wrapu8 (n := m % 256) (by omega) (by omega), wrap64 (n := i + 1) (by omega) (by omega), wrap_u64', catS_eq (by simp [b2s]; omega)]
      simp only [hi, decide_true, if_true, Option.bind_some]
      have e : k - i.toNat = (k - (i + 1).toNat) + 1 := by omega
      refine ⟨_, rfl, ⟨by simp only; omega, by simp only; omega, by simp only; omega, by simp only; omega, by simp only [List.length_append, b2s_length, List.length_cons, List.length_nil]; omega⟩, by simp only; omega, ?_⟩
      simp only [e, le, b2s_cons, List.append_assoc]
      rw [show m / 256 % 18446744073709551616 = m / 256 by omega]
      rfl
    · right
      have e : k - i.toNat = 0 := by omega
      simp [hi, e, le, b2s]
theorem le_mod {k : Nat} {n : Int} (h : 0 ≤ n) : le (n % 65536) 2 = le n 2 := by
  simp only [le, List.cons.injEq, and_true]
  constructor <;> omega
/-! ### segments -/
def mayS (s : SegDef) : Prop := (0 ≤ s.Align ∧ s.Align ≤ 4) ∧ (0 ≤ s.Len ∧ s.Len ≤ 65536) ∧ (s.Combine = 0 ∨ s.Combine = 2 ∨ s.Combine = 5 ∨ s.Combine = 6) ∧
  (s.Align ≠ 0 → s.Frame = 0 ∧ s.Offset = 0) ∧ (0 ≤ s.Name ∧ s.Name ≤ 32767) ∧ (0 ≤ s.Class ∧ s.Class ≤ 32767) ∧ (0 ≤ s.Overlay ∧ s.Overlay ≤ 32767)
instance (s : SegDef) : Decidable (mayS s) := by unfold mayS; infer_instance
theorem may26 (s : SegDef) : segs_May_j26 s = some (decide ((0 ≤ s.Name ∧ s.Name ≤ 32767) ∧ (0 ≤ s.Class ∧ s.Class ≤ 32767) ∧ (0 ≤ s.Overlay ∧ s.Overlay ≤ 32767))) := by
  unfold segs_May_j26
  have w1 : IntKind.wrap .i64 (0 + 1) = 1 := rfl
  have w2 : IntKind.wrap .i64 (1 + 1) = 2 := rfl
  have w3 : IntKind.wrap .i64 (2 + 1) = 3 := rfl
  have i0 : idx (A3.l ⟨s.Name, s.Class, s.Overlay⟩) 0 = some s.Name := rfl
  have i1 : idx (A3.l ⟨s.Name, s.Class, s.Overlay⟩) 1 = some s.Class := rfl
  have i2 : idx (A3.l ⟨s.Name, s.Class, s.Overlay⟩) 2 = some s.Overlay := rfl
  rw [loopO_eq]
  simp only [segs_May_l30, show decide ((0 : Int) < 3) = true from rfl, if_true, i0, Option.bind_some, w1]
  by_cases a : s.Name < 0
  · simp only [a, decide_true, if_true, Option.bind_some]; exact congrArg some (decide_eq_false (by omega)).symm
  by_cases b : s.Name > 32767
  · simp only [a, b, decide_true, decide_false, Bool.false_eq_true, if_false, if_true, Option.bind_some]; exact congrArg some (decide_eq_false (by omega)).symm
  simp only [a, b, decide_false, Bool.false_eq_true, if_false, Option.bind_some]
  rw [loopO_eq]
  simp only [segs_May_l30, show decide ((1 : Int) < 3) = true from rfl, if_true, i1, Option.bind_some, w2]
  by_cases c : s.Class < 0
  · simp only [c, decide_true, if_true, Option.bind_some]; exact congrArg some (decide_eq_false (by omega)).symm
  by_cases d : s.Class > 32767
  · simp only [c, d, decide_true, decide_false, Bool.false_eq_true, if_false, if_true, Option.bind_some]; exact congrArg some (decide_eq_false (by omega)).symm
  simp only [c, d, decide_false, Bool.false_eq_true, if_false, Option.bind_some]
  rw [loopO_eq]
  simp only [segs_May_l30, show decide ((2 : Int) < 3) = true from rfl, if_true, i2, Option.bind_some, w3]
  by_cases e : s.Overlay < 0
  · simp only [e, decide_true, if_true, Option.bind_some]; exact congrArg some (decide_eq_false (by omega)).symm
  by_cases f : s.Overlay > 32767
  · simp only [e, f, decide_true, decide_false, Bool.false_eq_true, if_false, if_true, Option.bind_some]; exact congrArg some (decide_eq_false (by omega)).symm
  simp only [e, f, decide_false, Bool.false_eq_true, if_false, Option.bind_some]
  rw [loopO_eq]
  simp only [segs_May_l30, show decide ((3 : Int) < 3) = false from rfl, Bool.false_eq_true, if_false, Option.bind_some]
  exact congrArg some (decide_eq_true (by omega)).symm
theorem may18 (s : SegDef) : segs_May_j18 s = some (decide ((s.Align ≠ 0 → s.Frame = 0 ∧ s.Offset = 0) ∧ (0 ≤ s.Name ∧ s.Name ≤ 32767) ∧ (0 ≤ s.Class ∧ s.Class ≤ 32767) ∧ (0 ≤ s.Overlay ∧ s.Overlay ≤ 32767))) := by
  unfold segs_May_j18
  rw [may26]
  by_cases a : s.Align = 0
  · simp [a]
  · by_cases b : s.Frame = 0
    · by_cases c : s.Offset = 0
      · simp [a, b, c]
      · simp [a, b, c]
    · simp [a, b]
theorem may_spec (s : SegDef) : segs_May s = some (decide (mayS s)) := by
  unfold segs_May mayS
  rw [may18]
  by_cases a1 : s.Align < 0
  · have : ¬ (0 ≤ s.Align) := by omega
    simp [a1, this]
  by_cases a2 : s.Align > 4
  · have : ¬ (s.Align ≤ 4) := by omega
    simp [a1, a2, this]
  by_cases a3 : s.Len < 0
  · have : ¬ (0 ≤ s.Len) := by omega
    simp [a1, a2, a3, this]
  by_cases a4 : s.Len > 65536
  · have : ¬ (s.Len ≤ 65536) := by omega
    simp [a1, a2, a3, a4, this]
  have b1 : 0 ≤ s.Align := by omega
  have b2 : s.Align ≤ 4 := by omega
  have b3 : 0 ≤ s.Len := by omega
  have b4 : s.Len ≤ 65536 := by omega
  by_cases c0 : s.Combine = 0
  · simp [a1, a2, a3, a4, b1, b2, b3, b4, c0]
  by_cases c2 : s.Combine = 2
  · simp [a1, a2, a3, a4, b1, b2, b3, b4, c2]
  by_cases c5 : s.Combine = 5
  · simp [a1, a2, a3, a4, b1, b2, b3, b4, c5]
  by_cases c6 : s.Combine = 6
  · simp [a1, a2, a3, a4, b1, b2, b3, b4, c6]
  simp [a1, a2, a3, a4, c0, c2, c5, c6]
theorem ref_index_spec (n : Int) : hansomref21_index n = some (decide (0 ≤ n ∧ n ≤ 32767)) := by
  unfold hansomref21_index
  by_cases h : n ≥ 0 <;> simp [h] <;> omega
theorem ref8 (s : SegDef) (a b c : Bool) : hansomref21_May_j8 s a b c = some (a && (b && (c && decide ((0 ≤ s.Align ∧ s.Align ≤ 4) ∧ (0 ≤ s.Len ∧ s.Len ≤ 65536))))) := by
  unfold hansomref21_May_j8
  cases a <;> cases b <;> cases c <;> simp
  by_cases h1 : 0 ≤ s.Align <;> by_cases h2 : s.Align ≤ 4 <;> by_cases h3 : 0 ≤ s.Len <;> simp [h1, h2, h3]
theorem ref6 (s : SegDef) (a b : Bool) : hansomref21_May_j6 s a b = some (a && (b && (decide (s.Align ≠ 0 → s.Frame = 0 ∧ s.Offset = 0) && decide ((0 ≤ s.Align ∧ s.Align ≤ 4) ∧ (0 ≤ s.Len ∧ s.Len ≤ 65536))))) := by
  unfold hansomref21_May_j6
  simp only [ref8]
  by_cases h1 : s.Align = 0
  · simp [h1]
  · by_cases h2 : s.Frame = 0
    · by_cases h3 : s.Offset = 0 <;> simp [h1, h2, h3]
    · simp [h1, h2]
theorem ref4 (s : SegDef) (a : Bool) : hansomref21_May_j4 s a = some (a && (decide (s.Combine = 0 ∨ s.Combine = 2 ∨ s.Combine = 5 ∨ s.Combine = 6) && (decide (s.Align ≠ 0 → s.Frame = 0 ∧ s.Offset = 0) && decide ((0 ≤ s.Align ∧ s.Align ≤ 4) ∧ (0 ≤ s.Len ∧ s.Len ≤ 65536))))) := by
  unfold hansomref21_May_j4
  simp only [ref6]
  by_cases h1 : s.Combine = 0
  · simp [h1]
  by_cases h2 : s.Combine = 2
  · simp [h2]
  by_cases h3 : s.Combine = 5
  · simp [h3]
  by_cases h4 : s.Combine = 6 <;> simp [h1, h2, h3, h4]
theorem refmay_spec (s : SegDef) : hansomref21_May s = some (decide (mayS s)) := by
  unfold hansomref21_May mayS
  simp only [ref_index_spec, Option.bind_some, ref4]
  by_cases h1 : 0 ≤ s.Name ∧ s.Name ≤ 32767
  · by_cases h2 : 0 ≤ s.Class ∧ s.Class ≤ 32767
    · by_cases h3 : 0 ≤ s.Overlay ∧ s.Overlay ≤ 32767
      · simp only [h1, h2, h3, and_self, decide_true, if_true, Bool.true_and, ← Bool.decide_and]
        exact congrArg some (decide_eq_decide.2 ⟨fun h => ⟨h.2.2.1, h.2.2.2, h.1, h.2.1, trivial⟩, fun h => ⟨h.2.2.1, h.2.2.2.1, h.1, h.2.1⟩⟩)
      · simp [h1, h2, h3]
    · simp [h1, h2]
  · simp [h1]
theorem first_or {a c : Int} (a0 : 0 ≤ a) (a1 : a ≤ 4) (c0 : 0 ≤ c) (c1 : c ≤ 7) : IntKind.wrap .u8 (bitsOp .or .i64 (shlI .i64 a 5) (shlI .i64 c 2)) = 32 * a + 4 * c ∧ bitsOp .or .u8 (IntKind.wrap .u8 (bitsOp .or .i64 (shlI .i64 a 5) (shlI .i64 c 2))) 2 = 32 * a + 4 * c + 2 := by
  have : ∀ x : Fin 5, ∀ y : Fin 8, IntKind.wrap .u8 (bitsOp .or .i64 (shlI .i64 (x.val : Int) 5) (shlI .i64 (y.val : Int) 2)) = 32 * (x.val : Int) + 4 * (y.val : Int) ∧ bitsOp .or .u8 (IntKind.wrap .u8 (bitsOp .or .i64 (shlI .i64 (x.val : Int) 5) (shlI .i64 (y.val : Int) 2))) 2 = 32 * (x.val : Int) + 4 * (y.val : Int) + 2 := by decide
  have h := this ⟨a.toNat, by omega⟩ ⟨c.toNat, by omega⟩
  simp only at h
  rw [Int.toNat_of_nonneg a0, Int.toNat_of_nonneg c0] at h
  exact h
def fst' (s : SegDef) : Int := 32 * s.Align + 4 * s.Combine + (if s.Len = 65536 then 2 else 0)
def sb (s : SegDef) : List Int := fst' s :: ((if s.Align = 0 then le s.Frame 2 ++ [s.Offset] else []) ++ (le (s.Len % 65536) 2 ++ (ix s.Name ++ (ix s.Class ++ ix s.Overlay))))
theorem seg26 (s : SegDef) (b : List Int) (x : Int) (hb : b.length ≤ 100) : segs_Segment_j26 s b x = some (⟨152, b ++ (le (s.Len % 65536) 2 ++ (ix s.Name ++ (ix s.Class ++ ix s.Overlay)))⟩, true) := by
  unfold segs_Segment_j26
  have n1 := (ix_len s.Name).2; have n2 := (ix_len s.Class).2; have n3 := (ix_len s.Overlay).2
  have w1 : IntKind.wrap .i64 (0 + 1) = 1 := rfl
  have w2 : IntKind.wrap .i64 (1 + 1) = 2 := rfl
  have w3 : IntKind.wrap .i64 (2 + 1) = 3 := rfl
  have i0 : idx (A3.l ⟨s.Name, s.Class, s.Overlay⟩) 0 = some s.Name := rfl
  have i1 : idx (A3.l ⟨s.Name, s.Class, s.Overlay⟩) 1 = some s.Class := rfl
  have i2 : idx (A3.l ⟨s.Name, s.Class, s.Overlay⟩) 2 = some s.Overlay := rfl
  rw [wrap_u16', index_Two_spec (by omega) (by omega), Option.bind_some, grow_eq (by simp [le_length]; omega) (by simp [le_length]; omega), Option.bind_some, loopO_eq]
  simp only [segs_Segment_l32, show decide ((0 : Int) < 3) = true from rfl, if_true, i0, Option.bind_some, w1, index_Put_spec]
  rw [grow_eq (by simp [le_length]; omega) (by simp [le_length]; omega)]
  simp only [Option.bind_some]
  rw [loopO_eq]
  simp only [segs_Segment_l32, show decide ((1 : Int) < 3) = true from rfl, if_true, i1, Option.bind_some, w2, index_Put_spec]
  rw [grow_eq (by simp [le_length]; omega) (by simp [le_length]; omega)]
  simp only [Option.bind_some]
  rw [loopO_eq]
  simp only [segs_Segment_l32, show decide ((2 : Int) < 3) = true from rfl, if_true, i2, Option.bind_some, w3, index_Put_spec]
  rw [grow_eq (by simp [le_length]; omega) (by simp [le_length]; omega)]
  simp only [Option.bind_some]
  rw [loopO_eq]
  simp only [segs_Segment_l32, show decide ((3 : Int) < 3) = false from rfl, Bool.false_eq_true, if_false, Option.bind_some, List.append_assoc]
theorem seg18 (s : SegDef) (x f : Int) (h0 : 0 ≤ s.Frame) (h1 : s.Frame ≤ 65535) : segs_Segment_j18 s x f = some (⟨152, f :: ((if s.Align = 0 then le s.Frame 2 ++ [s.Offset] else []) ++ (le (s.Len % 65536) 2 ++ (ix s.Name ++ (ix s.Class ++ ix s.Overlay))))⟩, true) := by
  unfold segs_Segment_j18
  by_cases h : s.Align = 0
  · simp only [h, beq_self_eq_true, if_true]
    rw [index_Two_spec h0 h1, Option.bind_some, grow_eq (by simp [le_length]) (by simp [le_length]), Option.bind_some, grow_eq (by simp [le_length]) (by simp [le_length]), Option.bind_some, seg26 _ _ _ (by simp [le_length])]
    simp
  · simp only [beq_iff_eq, h, if_false]
    rw [seg26 _ _ _ (by simp)]
    simp
theorem segment_spec (s : SegDef) (h0 : 0 ≤ s.Frame) (h1 : s.Frame ≤ 65535) : segs_Segment s = some (if mayS s then (⟨152, sb s⟩, true) else (⟨0, []⟩, false)) := by
  unfold segs_Segment
  rw [may_spec, Option.bind_some]
  by_cases hm : mayS s
  · have hm' := hm
    obtain ⟨ha, hl, hc, _⟩ := hm'
    obtain ⟨f1, f2⟩ := first_or ha.1 ha.2 (c := s.Combine) (by omega) (by omega)
    rw [f1] at f2
    simp only [hm, decide_true, Bool.not_true, Bool.false_eq_true, if_false, if_true, f1, f2]
    by_cases he : s.Len = 65536
    · simp only [he, beq_self_eq_true, if_true]
      rw [seg18 s _ _ h0 h1]
      simp [sb, fst', he]
    · simp only [beq_iff_eq, he, if_false]
      rw [seg18 s _ _ h0 h1]
      simp [sb, fst', he]
  · simp [hm]
theorem first_of {a c : Int} (b : Bool) (a0 : 0 ≤ a) (a1 : a ≤ 4) (c0 : 0 ≤ c) (c1 : c ≤ 7) :
    IntKind.wrap .i64 (shrI .u8 (32 * a + 4 * c + (if b then 2 else 0)) 5) = a ∧ IntKind.wrap .i64 (bitsOp .and .u8 (shrI .u8 (32 * a + 4 * c + (if b then 2 else 0)) 2) 7) = c ∧
    (bitsOp .and .u8 (32 * a + 4 * c + (if b then 2 else 0)) 2 != 0) = b ∧ (bitsOp .and .u8 (32 * a + 4 * c + (if b then 2 else 0)) 1 != 0) = false := by
  have : ∀ b : Bool, ∀ x : Fin 5, ∀ y : Fin 8, IntKind.wrap .i64 (shrI .u8 (32 * (x.val : Int) + 4 * (y.val : Int) + (if b then 2 else 0)) 5) = (x.val : Int) ∧ IntKind.wrap .i64 (bitsOp .and .u8 (shrI .u8 (32 * (x.val : Int) + 4 * (y.val : Int) + (if b then 2 else 0)) 2) 7) = (y.val : Int) ∧
    (bitsOp .and .u8 (32 * (x.val : Int) + 4 * (y.val : Int) + (if b then 2 else 0)) 2 != 0) = b ∧ (bitsOp .and .u8 (32 * (x.val : Int) + 4 * (y.val : Int) + (if b then 2 else 0)) 1 != 0) = false := by decide
  have h := this b ⟨a.toNat, by omega⟩ ⟨c.toNat, by omega⟩
  simp only at h
  rw [Int.toNat_of_nonneg a0, Int.toNat_of_nonneg c0] at h
  exact h
theorem def28 (z d : SegDef) (f n c o : Int) (hf : (bitsOp .and .u8 f 1 != 0) = false) (hn : 0 ≤ n ∧ n ≤ 32767) (hc : 0 ≤ c ∧ c ≤ 32767) (ho : 0 ≤ o ∧ o ≤ 32767)
    (hm : mayS ⟨d.Align, d.Combine, d.Frame, d.Offset, d.Len, n, c, o⟩) : segs_Def_j28 z d ⟨ix n ++ (ix c ++ ix o), 0⟩ f = some (⟨d.Align, d.Combine, d.Frame, d.Offset, d.Len, n, c, o⟩, 0) := by
  unfold segs_Def_j28
  have e3 := index_ix ho.1 ho.2 [] (by simp)
  rw [List.append_nil] at e3
  rw [index_ix hn.1 hn.2 _ (fun x hx => by
    rcases List.mem_append.1 hx with hx | hx
    · exact ix_wf _ _ hx
    · exact ix_wf _ _ hx), Option.bind_some, index_ix hc.1 hc.2 _ (ix_wf o), Option.bind_some, e3, Option.bind_some]
  simp only [hf, Bool.false_eq_true, if_false, may_spec, hm, decide_true, Option.bind_some, Bool.not_true, end_spec]
  simp
theorem def_segment (s : SegDef) (h : mayS s) (h0 : 0 ≤ s.Frame ∧ s.Frame ≤ 65535) (h1 : 0 ≤ s.Offset ∧ s.Offset ≤ 255) : segs_Def (sb s) = some (s, 0) := by
  have hm := h
  obtain ⟨ha, hl, hc, hfo, hn, hcl, hov⟩ := h
  obtain ⟨f1, f2, f3, f4⟩ := first_of (decide (s.Len = 65536)) ha.1 ha.2 (c := s.Combine) (by omega) (by omega)
  have hf : fst' s = 32 * s.Align + 4 * s.Combine + (if (decide (s.Len = 65536) : Bool) = true then 2 else 0) := by simp [fst']
  rw [← hf] at f1 f2 f3 f4
  have n1 := (ix_len s.Name).2; have n2 := (ix_len s.Class).2; have n3 := (ix_len s.Overlay).2
  have hsl : (sb s).length ≤ 100 := by
    unfold sb; split <;> simp [le_length] <;> omega
  have tail : ∀ z : SegDef, segs_Def_j14 z ⟨s.Align, s.Combine, s.Frame, s.Offset, 0, 0, 0, 0⟩ ⟨le (s.Len % 65536) 2 ++ (ix s.Name ++ (ix s.Class ++ ix s.Overlay)), 0⟩ (fst' s) = some (s, 0) := by
    intro z
    unfold segs_Def_j14
    rw [word_le (by omega) (by omega), Option.bind_some]
    simp only [f3]
    by_cases he : s.Len = 65536
    · have hz : (IntKind.wrap .i64 (s.Len % 65536) != 0) = false := by rw [he]; rfl
      simp only [he, decide_true, if_true]
      rw [he] at hz
      simp only [hz, Bool.false_eq_true, if_false]
      rw [def28 _ _ _ _ _ _ f4 hn hcl hov (by simp only; rw [← he]; exact hm)]
      rw [← he]
    · simp only [he, decide_false, Bool.false_eq_true, if_false]
      have hw : IntKind.wrap .i64 (s.Len % 65536) = s.Len := by rw [wrap64 (by omega) (by omega)]; omega
      rw [hw]
      exact def28 z ⟨s.Align, s.Combine, s.Frame, s.Offset, s.Len, 0, 0, 0⟩ _ _ _ _ f4 hn hcl hov hm
  unfold segs_Def
  rw [from_spec _ (by omega), Option.bind_some, sb, byte_cons, Option.bind_some]
  simp only [f1, f2]
  by_cases hz : s.Align = 0
  · simp only [hz, beq_self_eq_true, if_true, List.append_assoc]
    rw [word_le h0.1 h0.2, Option.bind_some, List.singleton_append, byte_cons, Option.bind_some]
    have := tail ⟨0, 0, 0, 0, 0, 0, 0, 0⟩
    rw [hz] at this
    exact this
  · obtain ⟨g1, g2⟩ := hfo hz
    simp only [beq_iff_eq, hz, if_false, List.nil_append]
    have := tail ⟨0, 0, 0, 0, 0, 0, 0, 0⟩
    rw [g1, g2] at this
    exact this
theorem awake_true : hansomlaw21_awake = some true := by
  unfold hansomlaw21_awake
  have hm : mayS ⟨3, 2, 0, 0, 5, 2, 0, 0⟩ := by decide
  rw [segment_spec _ (by simp) (by simp), if_pos hm, Option.bind_some, def_segment _ hm (by simp) (by simp)]
  rfl
theorem near_spec (s : SegDef) (odd : Int) (w : SegDef.wf s) : ∃ x, hansomlaw21_near s odd = some x ∧ (0 ≤ x.Frame ∧ x.Frame ≤ 65535) ∧ (0 ≤ x.Offset ∧ x.Offset ≤ 255) := by
  obtain ⟨_, _, wf, wo, _⟩ := w
  have wf := wfI_u16.1 wf
  have wo := wfI_u8.1 wo
  have a2 : bitsOp .and .i64 s.Combine 3 = s.Combine % 4 := and_mask s.Combine 2 (by omega)
  have m0 := Int.emod_nonneg s.Combine (show (4 : Int) ≠ 0 by decide)
  have m1 := Int.emod_lt_of_pos s.Combine (show (0 : Int) < 4 by decide)
  have j : ∀ z x : SegDef, (0 ≤ x.Frame ∧ x.Frame ≤ 65535) → (0 ≤ x.Offset ∧ x.Offset ≤ 255) → ∃ y, hansomlaw21_near_j10 s z x odd = some y ∧ (0 ≤ y.Frame ∧ y.Frame ≤ 65535) ∧ (0 ≤ y.Offset ∧ y.Offset ≤ 255) := by
    intro z x h1 h2
    unfold hansomlaw21_near_j10
    repeat' split
    all_goals first | exact ⟨_, rfl, h1, h2⟩ | exact ⟨_, rfl, wf, wo⟩
  unfold hansomlaw21_near
  rw [a2, idx_eq m0 (by simp; omega), Option.bind_some]
  split
  · exact j _ _ wf wo
  · exact j _ _ ⟨by simp, by simp⟩ ⟨by simp, by simp⟩
theorem word16 {n : Int} (h0 : 0 ≤ n) (h1 : n ≤ 65535) : hansomref18_Bytes (IntKind.wrap .u64 n) 2 = some (b2s (le n 2)) := by
  have wu : IntKind.wrap .u64 n = n := by rw [wrap_u64']; omega
  rw [wu]
  exact Bytes_spec (k := 2) h0 (by omega) (by omega)
theorem rseg18 (s : SegDef) (b : List Int) (hl : 0 ≤ s.Len) (hb : b.length ≤ 100) : hansomref21_Segment_j18 s (b2s b) = some (b2s (b ++ (le (s.Len % 65536) 2 ++ (ix s.Name ++ (ix s.Class ++ ix s.Overlay))))) := by
  unfold hansomref21_Segment_j18
  have n1 := (ix_len s.Name).2; have n2 := (ix_len s.Class).2; have n3 := (ix_len s.Overlay).2
  rw [Int.tmod_eq_emod_of_nonneg hl, word16 (by omega) (by omega), Option.bind_some, catS_eq (by simp [b2s_length, le_length]; omega), Option.bind_some, ref_Index_spec, Option.bind_some,
    catS_eq (by simp [b2s_length, le_length]; omega), Option.bind_some, ref_Index_spec, Option.bind_some, catS_eq (by simp [b2s_length, le_length]; omega), Option.bind_some, ref_Index_spec, Option.bind_some,
    catS_eq (by simp [b2s_length, le_length]; omega), Option.bind_some]
  simp [b2s_append]
theorem rseg10 (s : SegDef) (f : Int) (f0 : 0 ≤ f ∧ f ≤ 255) (hl : 0 ≤ s.Len) (h0 : 0 ≤ s.Frame ∧ s.Frame ≤ 65535) :
    hansomref21_Segment_j10 s f = some (b2s (f :: ((if s.Align = 0 then le s.Frame 2 ++ [s.Offset] else []) ++ (le (s.Len % 65536) 2 ++ (ix s.Name ++ (ix s.Class ++ ix s.Overlay)))))) := by
  unfold hansomref21_Segment_j10
  rw [wrapu8 f0.1 f0.2]
  by_cases h : s.Align = 0
  · simp only [h, beq_self_eq_true, if_true]
    rw [word16 h0.1 h0.2, Option.bind_some, catS_eq (by simp [b2s_length, le_length]), Option.bind_some, catS_eq (by simp [b2s_length, le_length]), Option.bind_some, ← b2s_append, ← b2s_append, rseg18 _ _ hl (by simp [le_length])]
    simp
  · simp only [beq_iff_eq, h, if_false]
    rw [rseg18 _ _ hl (by simp)]
    simp
theorem ref_segment (s : SegDef) (h : mayS s) (h0 : 0 ≤ s.Frame ∧ s.Frame ≤ 65535) : hansomref21_Segment s = some (b2s (sb s)) := by
  obtain ⟨ha, hl, hc, _⟩ := h
  unfold hansomref21_Segment
  rw [wrap64 (n := 32 * s.Align) (by omega) (by omega), wrap64 (n := 4 * s.Combine) (by omega) (by omega), wrap64 (n := 32 * s.Align + 4 * s.Combine) (by omega) (by omega), wrap64 (by omega) (by omega)]
  by_cases he : s.Len = 65536
  · have : fst' s = 32 * s.Align + 4 * s.Combine + 2 := by simp [fst', he]
    rw [if_pos (by simp [he]), rseg10 s _ (by omega) hl.1 h0, sb, this]
  · have : fst' s = 32 * s.Align + 4 * s.Combine := by simp [fst', he]
    rw [if_neg (by simp [he]), rseg10 s _ (by omega) hl.1 h0, sb, this]

end Go.Es.Seg
