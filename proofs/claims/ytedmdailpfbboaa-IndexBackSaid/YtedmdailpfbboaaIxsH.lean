/- What is read of a record's bytes: in plain Lean. No condition. -/
import Derived.Test.YtedmdailpfbboaaIxsP
set_option linter.unusedVariables false
set_option linter.unusedSimpArgs false
set_option maxHeartbeats 1000000
set_option maxRecDepth 100000
namespace Go.Es.Ixs
theorem cut_min {α : Type} (l : List α) (k : Nat) : cutL l 0 (mnI (l.length : Int) (k : Int)) = some (l.take k) := by
  rw [mnI_eq, cutL_eq (by omega) (by omega) (by omega)]
  have : (min (l.length : Int) (k : Int)).toNat = min l.length k := by omega
  simp only [Int.toNat_zero, List.drop_zero, Nat.sub_zero, this]
  congr 1
  by_cases h : k ≤ l.length
  · rw [Nat.min_eq_right h]
  · rw [Nat.min_eq_left (by omega), List.take_of_length_le (by omega), List.take_of_length_le (by omega)]
theorem cut_to {α : Type} (l : List α) {k : Nat} (h : k ≤ l.length) : cutL l 0 (k : Int) = some (l.take k) := by
  rw [cutL_eq (by omega) (by omega) (by omega)]; simp
theorem b2s_s2b (s : List UInt8) : b2s (s2b s) = s := by
  simp only [b2s, s2b, List.map_map]
  conv => rhs; rw [← List.map_id s]
  apply List.map_congr_left
  intro c _
  simp
theorem s2b_b2s {l : List Int} (h : ∀ c ∈ l, wfI .u8 c) : s2b (b2s l) = l := by
  simp only [b2s, s2b, List.map_map]
  conv => rhs; rw [← List.map_id l]
  apply List.map_congr_left
  intro c hc
  obtain ⟨h0, h1⟩ := wfI_u8.1 (h c hc)
  simp only [Function.comp, id, UInt8.toNat_ofNat']
  omega
theorem b2s_append (a b : List Int) : b2s (a ++ b) = b2s a ++ b2s b := by simp [b2s]
theorem b2s_cons (a : Int) (b : List Int) : b2s (a :: b) = UInt8.ofNat a.toNat :: b2s b := rfl
theorem s2b_append (a b : List UInt8) : s2b (a ++ b) = s2b a ++ s2b b := by simp [s2b]
theorem s2b_length (s : List UInt8) : (s2b s).length = s.length := by simp [s2b]
theorem b2s_length (s : List Int) : (b2s s).length = s.length := by simp [b2s]
theorem s2b_take (s : List UInt8) (k : Nat) : s2b (s.take k) = (s2b s).take k := by simp [s2b, List.map_take]
theorem s2b_wf (s : List UInt8) : ∀ c ∈ s2b s, wfI .u8 c := by
  intro c hc
  simp only [s2b, List.mem_map] at hc
  obtain ⟨x, _, rfl⟩ := hc
  have := x.toNat_lt
  exact wfI_u8.2 ⟨by omega, by omega⟩

/-! ### sources -/
theorem from_spec (b : List Int) (h : b.length ≤ 2 ^ 40) : index_From b = some ⟨b, 0⟩ := by
  unfold index_From
  rw [grow_eq (by simp; omega) (by simp; omega)]; rfl
theorem take_ok (s : Source) {n : Int} (h0 : 0 ≤ n) (h1 : n ≤ (s.b.length : Int)) : index_Source_Take s n = some (s.b.take n.toNat, ⟨s.b.drop n.toNat, s.e⟩) := by
  unfold index_Source_Take
  have e1 : ¬ n < 0 := by omega
  have e2 : ¬ n > (s.b.length : Int) := by omega
  simp only [e1, e2, decide_false, Bool.false_eq_true, if_false]
  rw [cut3_eq (by omega) h0 (by omega) h1, cutL_eq h0 h1 (by omega)]
  simp only [Option.bind_some, Int.toNat_zero, List.drop_zero, Nat.sub_zero, Int.toNat_natCast]
  have hd : List.take (s.b.length - n.toNat) (List.drop n.toNat s.b) = List.drop n.toNat s.b := List.take_of_length_le (by rw [List.length_drop]; omega)
  rw [hd]
theorem take_short (b : List Int) {n : Int} (h : n < 0 ∨ (b.length : Int) < n) : index_Source_Take ⟨b, 0⟩ n = some ([], ⟨[], 2⟩) := by
  unfold index_Source_Take
  rcases h with h | h
  · simp [h, index_Source_Wrong]
  · by_cases h0 : n < 0
    · simp [h0, index_Source_Wrong]
    · simp [h0, h, index_Source_Wrong]
theorem byte_cons (c : Int) (r : List Int) (e : Int) : index_Source_Byte ⟨c :: r, e⟩ = some (c, ⟨r, e⟩) := by
  unfold index_Source_Byte
  rw [take_ok _ (by omega) (by simp only [List.length_cons]; omega)]
  simp [idx]
theorem byte_nil : index_Source_Byte ⟨[], 0⟩ = some (0, ⟨[], 2⟩) := by
  unfold index_Source_Byte
  rw [take_short _ (by simp)]
  simp
theorem byte_end (e : Int) (he : e ≠ 0) : index_Source_Byte ⟨[], e⟩ = some (0, ⟨[], e⟩) := by
  unfold index_Source_Byte index_Source_Take
  simp [index_Source_Wrong, he]
theorem name_ok (c : Int) (r : List Int) (e : Int) (h0 : 0 ≤ c) (h1 : c ≤ 255) (h2 : c.toNat ≤ r.length) : index_Source_Name ⟨c :: r, e⟩ = some (b2s (r.take c.toNat), ⟨r.drop c.toNat, e⟩) := by
  unfold index_Source_Name
  rw [byte_cons, Option.bind_some]
  simp only [wrap64 (n := c) (by omega) (by omega)]
  rw [take_ok _ h0 (by simp only; omega)]; rfl
theorem name_short (c : Int) (r : List Int) (h0 : 0 ≤ c) (h1 : c ≤ 255) (h2 : r.length < c.toNat) : index_Source_Name ⟨c :: r, 0⟩ = some ([], ⟨[], 2⟩) := by
  unfold index_Source_Name
  rw [byte_cons, Option.bind_some]
  simp only [wrap64 (n := c) (by omega) (by omega)]
  rw [take_short _ (by omega)]; rfl
theorem name_nil : index_Source_Name ⟨[], 0⟩ = some ([], ⟨[], 2⟩) := by
  unfold index_Source_Name
  rw [byte_nil, Option.bind_some]
  simp only [show IntKind.wrap .i64 0 = 0 from rfl]
  rw [take_ok _ (by omega) (by simp)]; rfl
theorem end_spec (b : List Int) (e : Int) : index_Source_End ⟨b, e⟩ = some (if b = [] ∨ e ≠ 0 then (e, ⟨b, e⟩) else (3, ⟨[], 3⟩)) := by
  unfold index_Source_End index_Source_Left index_Source_Err index_Source_Wrong
  cases b with
  | nil => simp
  | cons x r =>
    by_cases he : e = 0
    · have : ¬ ((r.length : Int) + 1 ≤ 0) := by omega
      simp [he, this]
    · have : ¬ ((r.length : Int) + 1 ≤ 0) := by omega
      simp [he, this]

/-! ### names -/
/-- a name's bytes -/
def enc (s : List UInt8) : List Int := (s.length : Int) :: s2b s
theorem enc_length (s : List UInt8) : (enc s).length = s.length + 1 := by simp [enc, s2b]

theorem ref_spec (s : List UInt8) (h : s.length ≤ 255) : hansomref18_Name s = some (b2s (enc s)) := by
  unfold hansomref18_Name
  have : ¬ ((s.length : Int) > 255) := by omega
  simp only [this, decide_false, Bool.false_eq_true, if_false, wrapu8 (n := (s.length : Int)) (by omega) (by omega)]
  rw [catS_eq (by simp [b2s]; omega)]
  simp only [Option.bind_some, enc, b2s_cons, b2s_s2b]; rfl
theorem enc_name (s : List UInt8) (h : s.length ≤ 255) (r : List Int) : index_Source_Name ⟨enc s ++ r, 0⟩ = some (s, ⟨r, 0⟩) := by
  have hl : (s.length : Int).toNat = (s2b s).length := by rw [s2b_length]; omega
  have hl2 : (s.length : Int).toNat ≤ (s2b s ++ r).length := by rw [hl, List.length_append]; omega
  rw [enc, List.cons_append, name_ok _ _ _ (by omega) (by omega) hl2, hl]
  simp [b2s_s2b]


/-! ### bytes -/
theorem wrap_u8' (n : Int) : IntKind.wrap .u8 n = n % 256 := by simp [IntKind.wrap, IntKind.bits, IntKind.signed]
theorem or128 {x : Int} (h0 : 0 ≤ x) (h1 : x < 128) : bitsOp .or .u8 x 128 = x + 128 := by
  have : ∀ n : Fin 128, bitsOp .or .u8 (n.val : Int) 128 = (n.val : Int) + 128 := by decide
  have := this ⟨x.toNat, by omega⟩
  simp only at this
  rw [Int.toNat_of_nonneg h0] at this
  exact this
/-- the low bytes of a number -/
def le : Int → Nat → List Int
  | _, 0 => []
  | n, k + 1 => n % 256 :: le (n / 256) k
theorem le_length (n : Int) (k : Nat) : (le n k).length = k := by
  induction k generalizing n with
  | zero => rfl
  | succ k ih => simp [le, ih]
/-- an index's bytes -/
def ix (n : Int) : List Int := if n < 0 ∨ 32767 < n then [0] else if n < 128 then [n] else [n / 256 + 128, n % 256]
theorem index_Put_spec (n : Int) : index_Put n = some (ix n) := by
  unfold index_Put ix
  by_cases h0 : n < 0
  · simp [h0]
  · by_cases h1 : n > 32767
    · simp [h0, h1]
    · by_cases h2 : n < 128
      · simp [h0, h1, h2, wrapu8 (n := n) (by omega) (by omega)]
      · simp only [h0, h1, h2, decide_false, Bool.false_eq_true, if_false, show ¬ (n < 0 ∨ 32767 < n) from by omega]
        have e : shrI .i64 n 8 = n / 256 := shr_eq (j := 8) (by decide)
        rw [e, wrapu8 (n := n / 256) (by omega) (by omega), or128 (by omega) (by omega), wrap_u8']; simp only [or_self, if_false]
/-! ### words and indexes that are read -/
theorem or_i64 {x y : Int} (j : Nat) (a : Nat) (hx : x = ((2 ^ j * a : Nat) : Int)) (hb : 2 ^ j * a + 2 ^ j ≤ 2 ^ 62) (h0 : 0 ≤ y) (h1 : y < (2 ^ j : Nat)) : bitsOp .or .i64 x y = x + y := by
  have e : bitsOp .or .i64 x y = IntKind.wrap .i64 (((BitVec.ofInt 64 x ||| BitVec.ofInt 64 y).toNat : Nat) : Int) := rfl
  have e1 : (BitVec.ofInt 64 x).toNat = 2 ^ j * a := by rw [BitVec.toNat_ofInt]; omega
  have e2 : (BitVec.ofInt 64 y).toNat = y.toNat := by rw [BitVec.toNat_ofInt]; omega
  have h2 : y.toNat < 2 ^ j := by omega
  rw [e, BitVec.toNat_or, e1, e2, ← Nat.two_pow_add_eq_or_of_lt h2, wrap64 (by omega) (by omega)]
  omega
theorem and127 (x : Int) : bitsOp .and .i64 x 127 = x % 128 := and_mask x 7 (by omega)
theorem or_hi {x y : Int} (hx0 : 128 ≤ x) (hx : x ≤ 255) (h0 : 0 ≤ y) (h1 : y ≤ 255) : bitsOp .or .i64 (shlI .i64 (bitsOp .and .i64 x 127) 8) y = (x - 128) * 256 + y := by
  have e : shlI .i64 (bitsOp .and .i64 x 127) 8 = (x - 128) * 256 := by
    rw [and127, show x % 128 = x - 128 by omega]
    show IntKind.wrap .i64 ((x - 128) * 256) = _
    exact wrap64 (by omega) (by omega)
  rw [e, or_i64 8 (x - 128).toNat (by omega) (by omega) h0 (by omega)]
theorem index_one (c : Int) (r : List Int) (e : Int) (h0 : 0 ≤ c) (h1 : c < 128) : index_Source_Index ⟨c :: r, e⟩ = some (c, ⟨r, e⟩) := by
  unfold index_Source_Index
  rw [byte_cons, Option.bind_some]
  simp only [wrap64 (n := c) (by omega) (by omega), h1, decide_true, if_true]
theorem index_two (c d : Int) (r : List Int) (h0 : 128 ≤ c) (h1 : c ≤ 255) (h2 : 0 ≤ d) (h3 : d ≤ 255) : index_Source_Index ⟨c :: d :: r, 0⟩ = some ((c - 128) * 256 + d, ⟨r, 0⟩) := by
  unfold index_Source_Index
  rw [byte_cons, Option.bind_some]
  simp only [wrap64 (n := c) (by omega) (by omega), show ¬ c < 128 by omega, decide_false, Bool.false_eq_true, if_false]
  rw [byte_cons, Option.bind_some]
  simp only [index_Source_Err, Option.bind_some, wrap64 (n := d) (by omega) (by omega), or_hi h0 h1 h2 h3]
  rfl
theorem index_cut (c : Int) (h0 : 128 ≤ c) (h1 : c ≤ 255) : index_Source_Index ⟨[c], 0⟩ = some (0, ⟨[], 2⟩) := by
  unfold index_Source_Index
  rw [byte_cons, Option.bind_some]
  simp only [wrap64 (n := c) (by omega) (by omega), show ¬ c < 128 by omega, decide_false, Bool.false_eq_true, if_false]
  rw [byte_nil]; rfl
theorem index_nil : index_Source_Index ⟨[], 0⟩ = some (0, ⟨[], 2⟩) := by
  unfold index_Source_Index
  rw [byte_nil]; rfl
theorem index_end : index_Source_Index ⟨[], 2⟩ = some (0, ⟨[], 2⟩) := by
  unfold index_Source_Index
  rw [byte_end 2 (by decide)]; rfl
/-- what is read of any bytes -/
def rdIx : List Int → Option (Int × List Int)
  | [] => none
  | c :: r => if c < 128 then some (c, r) else match r with | [] => none | d :: r => some ((c - 128) * 256 + d, r)
theorem index_any (b : List Int) (h : ∀ c ∈ b, wfI .u8 c) : index_Source_Index ⟨b, 0⟩ = some (match rdIx b with | some (v, r) => (v, ⟨r, 0⟩) | none => (0, ⟨[], 2⟩)) := by
  match b, h with
  | [], _ => simp [rdIx, index_nil]
  | c :: r, h =>
    obtain ⟨c0, c1⟩ := wfI_u8.1 (h c (by simp))
    by_cases hc : c < 128
    · simp [rdIx, hc, index_one c r 0 c0 hc]
    · match r, h with
      | [], _ => simp [rdIx, hc, index_cut c (by omega) c1]
      | d :: r, h =>
        obtain ⟨d0, d1⟩ := wfI_u8.1 (h d (by simp))
        simp [rdIx, hc, index_two c d r (by omega) c1 d0 d1]
theorem rdIx_len {b : List Int} {v : Int} {r : List Int} (h : rdIx b = some (v, r)) : r.length + 1 ≤ b.length ∧ ∀ c ∈ r, c ∈ b := by
  cases b with
  | nil => simp [rdIx] at h
  | cons c t =>
    by_cases hc : c < 128
    · simp only [rdIx, hc, if_true, Option.some.injEq, Prod.mk.injEq] at h
      obtain ⟨rfl, rfl⟩ := h
      exact ⟨by simp, fun c hc => by simp [hc]⟩
    · cases t with
      | nil => simp [rdIx, hc] at h
      | cons d t =>
        simp only [rdIx, hc, if_false, Option.some.injEq, Prod.mk.injEq] at h
        obtain ⟨rfl, rfl⟩ := h
        exact ⟨by simp, fun c hc => by simp [hc]⟩
theorem rdIx_lo {b : List Int} {v : Int} {r : List Int} (hb : ∀ c ∈ b, wfI .u8 c) (h : rdIx b = some (v, r)) : 0 ≤ v ∧ v ≤ 32767 := by
  cases b with
  | nil => simp [rdIx] at h
  | cons c t =>
    obtain ⟨c0, c1⟩ := wfI_u8.1 (hb c (by simp))
    by_cases hc : c < 128
    · simp only [rdIx, hc, if_true, Option.some.injEq, Prod.mk.injEq] at h
      obtain ⟨rfl, rfl⟩ := h
      omega
    · cases t with
      | nil => simp [rdIx, hc] at h
      | cons d t =>
        obtain ⟨d0, d1⟩ := wfI_u8.1 (hb d (by simp))
        simp only [rdIx, hc, if_false, Option.some.injEq, Prod.mk.injEq] at h
        obtain ⟨rfl, rfl⟩ := h
        omega
theorem rdIx_ix {n : Int} (h0 : 0 ≤ n) (h1 : n ≤ 32767) (r : List Int) : rdIx (ix n ++ r) = some (n, r) := by
  unfold ix
  rw [if_neg (by omega)]
  by_cases h : n < 128
  · simp [h, rdIx]
  · have : ¬ (n / 256 + 128 < 128) := by omega
    simp only [h, if_false, List.cons_append, List.nil_append, rdIx, this]
    simp only [Option.some.injEq, Prod.mk.injEq, and_true]; omega
theorem ix_wf (n : Int) : ∀ c ∈ ix n, wfI .u8 c := by
  intro c hc
  unfold ix at hc
  split at hc
  · simp only [List.mem_singleton] at hc; subst hc; exact wfI_u8.2 ⟨by omega, by omega⟩
  · split at hc
    · simp only [List.mem_singleton] at hc; subst hc; exact wfI_u8.2 ⟨by omega, by omega⟩
    · simp only [List.mem_cons, List.not_mem_nil, or_false] at hc
      rcases hc with rfl | rfl
      · exact wfI_u8.2 ⟨by omega, by omega⟩
      · exact wfI_u8.2 ⟨by omega, by omega⟩
theorem ix_len (n : Int) : 1 ≤ (ix n).length ∧ (ix n).length ≤ 2 := by
  unfold ix; split
  · simp
  · split <;> simp
theorem le_wf (n : Int) (k : Nat) : ∀ c ∈ le n k, wfI .u8 c := by
  induction k generalizing n with
  | zero => intro c hc; simp [le] at hc
  | succ k ih =>
    intro c hc
    simp only [le, List.mem_cons] at hc
    rcases hc with rfl | hc
    · exact wfI_u8.2 ⟨by omega, by omega⟩
    · exact ih _ c hc
theorem index_ix {n : Int} (h0 : 0 ≤ n) (h1 : n ≤ 32767) (r : List Int) (hr : ∀ c ∈ r, wfI .u8 c) : index_Source_Index ⟨ix n ++ r, 0⟩ = some (n, ⟨r, 0⟩) := by
  rw [index_any _ (fun c hc => by rcases List.mem_append.1 hc with hc | hc; exact ix_wf n c hc; exact hr c hc), rdIx_ix h0 h1]
theorem or_u16 {x y : Int} (j : Nat) (a : Nat) (hx : x = ((2 ^ j * a : Nat) : Int)) (hb : 2 ^ j * a + 2 ^ j ≤ 2 ^ 16) (h0 : 0 ≤ y) (h1 : y < (2 ^ j : Nat)) : bitsOp .or .u16 y x = y + x := by
  have e : bitsOp .or .u16 y x = IntKind.wrap .u16 (((BitVec.ofInt 16 y ||| BitVec.ofInt 16 x).toNat : Nat) : Int) := rfl
  have e1 : (BitVec.ofInt 16 x).toNat = 2 ^ j * a := by rw [BitVec.toNat_ofInt]; omega
  have e2 : (BitVec.ofInt 16 y).toNat = y.toNat := by rw [BitVec.toNat_ofInt]; omega
  have h2 : y.toNat < 2 ^ j := by omega
  rw [e, BitVec.toNat_or, e1, e2, Nat.or_comm, ← Nat.two_pow_add_eq_or_of_lt h2, wrapu16 (by omega) (by omega)]
  omega
theorem bits_Word_spec {l h : Int} (l0 : 0 ≤ l) (l1 : l ≤ 255) (h0 : 0 ≤ h) (h1 : h ≤ 255) : bits_Word l h = some (l + h * 256) := by
  unfold bits_Word
  have e : shlI .u16 (IntKind.wrap .u16 h) 8 = h * 256 := by
    rw [wrapu16 (by omega) (by omega)]
    show IntKind.wrap .u16 (h * 256) = _
    exact wrapu16 (by omega) (by omega)
  rw [e, wrapu16 (n := l) (by omega) (by omega), or_u16 8 h.toNat (by omega) (by omega) l0 (by omega)]
theorem word_cons (c d : Int) (r : List Int) (e : Int) (c0 : wfI .u8 c) (d0 : wfI .u8 d) : index_Source_Word ⟨c :: d :: r, e⟩ = some (c + d * 256, ⟨r, e⟩) := by
  obtain ⟨c0, c1⟩ := wfI_u8.1 c0
  obtain ⟨d0, d1⟩ := wfI_u8.1 d0
  unfold index_Source_Word
  rw [take_ok _ (by omega) (by simp only [List.length_cons]; omega)]
  simp [idx, bits_Word_spec c0 c1 d0 d1]
theorem word_short (b : List Int) (h : b.length < 2) : index_Source_Word ⟨b, 0⟩ = some (0, ⟨[], 2⟩) := by
  unfold index_Source_Word
  rw [take_short _ (by omega)]
  simp
theorem word_end : index_Source_Word ⟨[], 2⟩ = some (0, ⟨[], 2⟩) := by
  unfold index_Source_Word index_Source_Take
  simp [index_Source_Wrong]
theorem word_le {w : Int} (h0 : 0 ≤ w) (h1 : w ≤ 65535) (r : List Int) : index_Source_Word ⟨le w 2 ++ r, 0⟩ = some (w, ⟨r, 0⟩) := by
  have := word_cons (w % 256) (w / 256 % 256) r 0 (le_wf w 2 _ (by simp [le])) (le_wf w 2 _ (by simp [le]))
  simp only [le, List.cons_append, List.nil_append, this, Option.some.injEq, Prod.mk.injEq, and_true]
  omega
def rdW : List Int → Option (Int × List Int)
  | c :: d :: r => some (c + d * 256, r)
  | _ => none
theorem word_any (b : List Int) (h : ∀ c ∈ b, wfI .u8 c) : index_Source_Word ⟨b, 0⟩ = some (match rdW b with | some (v, r) => (v, ⟨r, 0⟩) | none => (0, ⟨[], 2⟩)) := by
  match b, h with
  | [], _ => simp [rdW, word_short]
  | [c], _ => simp [rdW, word_short]
  | c :: d :: r, h => simp [rdW, word_cons c d r 0 (h c (by simp)) (h d (by simp))]
theorem rdW_len {b : List Int} {v : Int} {r : List Int} (h : rdW b = some (v, r)) : r.length + 2 = b.length ∧ ∀ c ∈ r, c ∈ b := by
  match b, h with
  | c :: d :: t, h => cases h; exact ⟨by simp, fun c hc => by simp [hc]⟩
theorem rdW_lo {b : List Int} {v : Int} {r : List Int} (hb : ∀ c ∈ b, wfI .u8 c) (h : rdW b = some (v, r)) : 0 ≤ v ∧ v ≤ 65535 := by
  match b, hb, h with
  | c :: d :: t, hb, h =>
    obtain ⟨c0, c1⟩ := wfI_u8.1 (hb c (by simp))
    obtain ⟨d0, d1⟩ := wfI_u8.1 (hb d (by simp))
    cases h; omega
theorem ref_Index_spec (n : Int) : hansomref18_Index n = some (b2s (ix n)) := by
  unfold hansomref18_Index ix
  by_cases h0 : n < 0
  · simp only [h0, decide_true, if_true, true_or]; rfl
  · by_cases h1 : n > 32767
    · simp only [h0, h1, decide_true, decide_false, Bool.false_eq_true, if_true, if_false, or_true]; rfl
    · simp only [h0, h1, decide_false, Bool.false_eq_true, if_false, show ¬ (n < 0 ∨ 32767 < n) from by omega]
      unfold hansomref18_Index_j8
      by_cases h2 : n < 128
      · simp [h2, wrapu8 (n := n) (by omega) (by omega)]
      · simp only [h2, decide_false, Bool.false_eq_true, if_false, Int.tdiv_eq_ediv_of_nonneg (show 0 ≤ n by omega), Int.tmod_eq_emod_of_nonneg (show 0 ≤ n by omega)]
        rw [wrap64 (n := n / 256) (by omega) (by omega), wrap64 (n := n / 256 + 128) (by omega) (by omega), wrapu8 (by omega) (by omega), wrapu8 (by omega) (by omega)]; simp only [or_self, if_false]
theorem Bytes_spec {n : Int} {k : Nat} (h0 : 0 ≤ n) (h1 : n ≤ 18446744073709551615) (hk : k ≤ 1000) : hansomref18_Bytes n (k : Int) = some (b2s (le n k)) := by
  unfold hansomref18_Bytes
  rw [loop_to (f := fun x : Int × List UInt8 × Int => hansomref18_Bytes_l8 x.1 (k : Int) x.2.1 x.2.2) (fun x => x.2.1 ++ b2s (le x.1 (k - x.2.2.toNat)))
    (fun x => 0 ≤ x.1 ∧ x.1 ≤ 18446744073709551615 ∧ 0 ≤ x.2.2 ∧ x.2.2 ≤ k ∧ (x.2.1.length : Int) = x.2.2) (fun x => (k - x.2.2).toNat) (fun x hx => ?_) ⟨h0, h1, by simp, by simp, by simp⟩]
  · simp
  · obtain ⟨m, s, i⟩ := x
    obtain ⟨a0, a1, a2, a3, a4⟩ := hx
    simp only at a0 a1 a2 a3 a4 ⊢
    unfold hansomref18_Bytes_l8
    by_cases hi : i < (k : Int)
    · left
      rw [Int.tdiv_eq_ediv_of_nonneg a0, Int.tmod_eq_emod_of_nonneg a0, wrapu8 (n := m % 256) (by omega) (by omega), wrap64 (n := i + 1) (by omega) (by omega), wrap_u64', catS_eq (by simp [b2s]; omega)]
      simp only [hi, decide_true, if_true, Option.bind_some]
      have e : k - i.toNat = (k - (i + 1).toNat) + 1 := by omega
      refine ⟨_, rfl, ⟨by simp only; omega, by simp only; omega, by simp only; omega, by simp only; omega, by simp only [List.length_append, b2s_length, List.length_cons, List.length_nil]; omega⟩, by simp only; omega, ?_⟩
      simp only [e, le, b2s_cons, List.append_assoc]
      rw [show m / 256 % 18446744073709551616 = m / 256 by omega]
      rfl
    · right
      have e : k - i.toNat = 0 := by omega
      simp [hi, e, le, b2s]
theorem le_mod {k : Nat} {n : Int} (h : 0 ≤ n) : le (n % 65536) 2 = le n 2 := by
  simp only [le, List.cons.injEq, and_true]
  constructor <;> omega
/-- a long number's bytes -/
def lg (n : Int) : List Int := if n ≤ 128 then le n 1 else if n < 65536 then 129 :: le n 2 else if n < 16777216 then 132 :: le n 3 else 136 :: le n 4
theorem ref_Long_spec {n : Int} (h0 : 0 ≤ n) (h1 : n ≤ 4294967295) : hansomref18_Long n = some (b2s (lg n)) := by
  unfold hansomref18_Long lg
  have w : IntKind.wrap .u64 n = n := by rw [wrap_u64']; omega
  have b : ∀ k : Nat, k ≤ 4 → hansomref18_Bytes n (k : Int) = some (b2s (le n k)) := fun k hk => Bytes_spec h0 (by omega) (by omega)
  have b1 : hansomref18_Bytes n 1 = _ := b 1 (by omega)
  have b2 : hansomref18_Bytes n 2 = _ := b 2 (by omega)
  have b3 : hansomref18_Bytes n 3 = _ := b 3 (by omega)
  have b4 : hansomref18_Bytes n 4 = _ := b 4 (by omega)
  rw [w]
  by_cases a1 : n ≤ 128
  · simp only [a1, decide_true, if_true]; rw [b1]; rfl
  · by_cases a2 : n < 65536
    · simp only [a1, a2, decide_true, decide_false, Bool.false_eq_true, if_true, if_false]
      rw [b2, Option.bind_some, catS_eq (by simp [b2s, le])]; rfl
    · by_cases a3 : n < 16777216
      · simp only [a1, a2, a3, decide_true, decide_false, Bool.false_eq_true, if_true, if_false]
        rw [b3, Option.bind_some, catS_eq (by simp [b2s, le])]; rfl
      · simp only [a1, a2, a3, decide_true, decide_false, Bool.false_eq_true, if_true, if_false]
        rw [b4, Option.bind_some, catS_eq (by simp [b2s, le])]; rfl
theorem ref_Name_cut (s : List UInt8) : hansomref18_Name s = some (b2s (enc (s.take 255))) := by
  by_cases h : s.length ≤ 255
  · rw [ref_spec s h, List.take_of_length_le h]
  · unfold hansomref18_Name
    have : ((s.length : Int) > 255) := by omega
    simp only [this, decide_true, if_true]
    rw [show (255 : Int) = ((255 : Nat) : Int) from rfl, cut_to s (by omega), Option.bind_some, wrapu8 (n := ((s.take 255).length : Int)) (by omega) (by simp; omega), catS_eq (by simp [b2s]; omega)]
    simp only [Option.bind_some, enc, b2s_cons, b2s_s2b]; rfl
/-! ### long numbers that are read -/
theorem or_u32 {x y : Int} (j : Nat) (a : Nat) (hx : x = ((2 ^ j * a : Nat) : Int)) (hb : 2 ^ j * a + 2 ^ j ≤ 2 ^ 32) (h0 : 0 ≤ y) (h1 : y < (2 ^ j : Nat)) : bitsOp .or .u32 y x = y + x := by
  have e : bitsOp .or .u32 y x = IntKind.wrap .u32 (((BitVec.ofInt 32 y ||| BitVec.ofInt 32 x).toNat : Nat) : Int) := rfl
  have e1 : (BitVec.ofInt 32 x).toNat = 2 ^ j * a := by rw [BitVec.toNat_ofInt]; omega
  have e2 : (BitVec.ofInt 32 y).toNat = y.toNat := by rw [BitVec.toNat_ofInt]; omega
  have h2 : y.toNat < 2 ^ j := by omega
  have hw : ∀ n : Int, IntKind.wrap .u32 n = n % 4294967296 := fun n => by simp [IntKind.wrap, IntKind.bits, IntKind.signed]
  rw [e, BitVec.toNat_or, e1, e2, Nat.or_comm, ← Nat.two_pow_add_eq_or_of_lt h2, hw]
  omega
theorem wrap_u32' (n : Int) : IntKind.wrap .u32 n = n % 4294967296 := by simp [IntKind.wrap, IntKind.bits, IntKind.signed]
/-- the number of bytes, the lowest first -/
def un : List Int → Int
  | [] => 0
  | c :: r => c + 256 * un r
theorem emod_split (n M : Int) (hM : 0 < M) : n % (256 * M) = n % 256 + 256 * (n / 256 % M) := by
  have h1 := Int.mul_ediv_add_emod n 256
  have h2 := Int.mul_ediv_add_emod (n / 256) M
  have h3 := Int.emod_nonneg (n / 256) (show M ≠ 0 by omega)
  have h4 := Int.emod_lt_of_pos (n / 256) hM
  have e : n = (n % 256 + 256 * (n / 256 % M)) + 256 * M * (n / 256 / M) := by
    have : 256 * M * (n / 256 / M) = 256 * (M * (n / 256 / M)) := Int.mul_assoc _ _ _
    rw [this]; omega
  conv => lhs; rw [e]
  rw [Int.add_mul_emod_self_left]
  exact Int.emod_eq_of_lt (by omega) (by omega)
theorem un_le : ∀ (k : Nat) (n : Int), 0 ≤ n → un (le n k) = n % ((256 ^ k : Nat) : Int)
  | 0, n, _ => by simp [un, le]
  | k + 1, n, h => by
    simp only [un, le]
    have h1 : (0 : Int) < ((256 ^ k : Nat) : Int) := by exact_mod_cast Nat.pos_of_ne_zero (by simp)
    rw [un_le k (n / 256) (by omega), Nat.pow_succ, Nat.mul_comm]
    rw [show ((256 * 256 ^ k : Nat) : Int) = 256 * ((256 ^ k : Nat) : Int) from by simp, emod_split _ _ h1]
theorem un_append : ∀ (a b : List Int), un (a ++ b) = un a + ((256 ^ a.length : Nat) : Int) * un b
  | [], b => by simp [un]
  | c :: a, b => by
    simp only [List.cons_append, un, un_append a b, List.length_cons, Nat.pow_succ]
    push_cast
    rw [Int.mul_add, ← Int.mul_assoc, Int.mul_comm (256 : Int) (256 ^ a.length), Int.add_assoc]
theorem un_lo : ∀ (a : List Int), (∀ c ∈ a, wfI .u8 c) → 0 ≤ un a ∧ un a < ((256 ^ a.length : Nat) : Int)
  | [], _ => by simp [un]
  | c :: a, h => by
    obtain ⟨i0, i1⟩ := un_lo a fun x hx => h x (by simp [hx])
    obtain ⟨c0, c1⟩ := wfI_u8.1 (h c (by simp))
    simp only [un, List.length_cons, Nat.pow_succ]
    push_cast at *
    omega
theorem long_step (s : Source) (out : Int) (t : List Int) (i : Nat) (hi : i < t.length) (ht : t.length ≤ 4) (hw : ∀ c ∈ t, wfI .u8 c) (ho : out = un (t.take i)) :
    index_Source_Long_l29 s out t (t.length : Int) (i : Int) = some (.next (un (t.take (i + 1)), ((i + 1 : Nat) : Int))) := by
  unfold index_Source_Long_l29
  have hlt : (i : Int) < (t.length : Int) := by omega
  obtain ⟨c0, c1⟩ := wfI_u8.1 (hw t[i] (List.getElem_mem hi))
  have hlow := un_lo (t.take i) fun c hc => hw c (List.mem_of_mem_take hc)
  rw [← ho, List.length_take, Nat.min_eq_left (by omega)] at hlow
  have e8 : IntKind.wrap .i64 (8 * (i : Int)) = ((8 * i : Nat) : Int) := by rw [wrap64 (by omega) (by omega)]; omega
  have hp : 256 ^ i = 2 ^ (8 * i) := by rw [Nat.pow_mul]
  have hp4 : 2 ^ (8 * i) * 256 ≤ 2 ^ 32 := by
    rw [show (256 : Nat) = 2 ^ 8 from rfl, ← Nat.pow_add]
    exact Nat.pow_le_pow_right (by omega) (by omega)
  have hmul : 2 ^ (8 * i) * (t[i]).toNat ≤ 2 ^ (8 * i) * 255 := Nat.mul_le_mul_left _ (by omega)
  have esh : shlO .u32 (IntKind.wrap .u32 t[i]) ((8 * i : Nat) : Int) = some ((2 ^ (8 * i) * (t[i]).toNat : Nat) : Int) := by
    unfold shlO
    rw [if_neg (by omega), wrap_u32']
    unfold shlI
    have hb : min ((8 * i : Nat) : Int).toNat (IntKind.bits .u32) = 8 * i := by simp only [Int.toNat_natCast, show IntKind.bits .u32 = 32 from rfl]; omega
    rw [hb, wrap_u32', show t[i] % 4294967296 = t[i] by omega]
    have : t[i] * (2 : Int) ^ (8 * i) = ((2 ^ (8 * i) * (t[i]).toNat : Nat) : Int) := by
      rw [Int.natCast_mul, Int.toNat_of_nonneg c0, Int.natCast_pow, Int.mul_comm]; rfl
    rw [this]
    congr 1
    omega
  have eor : bitsOp .or .u32 out ((2 ^ (8 * i) * (t[i]).toNat : Nat) : Int) = un (t.take (i + 1)) := by
    rw [or_u32 (8 * i) (t[i]).toNat rfl (by omega) hlow.1 (by rw [← hp]; exact hlow.2)]
    have et : t.take (i + 1) = t.take i ++ [t[i]] := by rw [List.take_succ_eq_append_getElem hi]
    rw [et, un_append, ← ho, List.length_take, Nat.min_eq_left (by omega), hp]
    simp only [un, Int.mul_zero, Int.add_zero]
    rw [Int.natCast_mul, Int.toNat_of_nonneg c0]
  simp only [hlt, decide_true, if_true, idx_nat hi, Option.bind_some, e8, esh, eor, wrap64 (n := (i : Int) + 1) (by omega) (by omega)]
  rfl
theorem long_loop (s : Source) (t : List Int) (ht : t.length ≤ 4) (hw : ∀ c ∈ t, wfI .u8 c) : loopO (fun x : Int × Int => index_Source_Long_l29 s x.1 t (t.length : Int) x.2) (0, 0) = some (un t) := by
  refine loop_to (f := fun x : Int × Int => index_Source_Long_l29 s x.1 t (t.length : Int) x.2) (fun _ => un t) (fun x => ∃ i : Nat, x.2 = i ∧ i ≤ t.length ∧ x.1 = un (t.take i)) (fun x => (t.length - x.2).toNat) (fun x hx => ?_) ⟨0, rfl, by omega, by simp [un]⟩
  obtain ⟨o, j⟩ := x
  obtain ⟨i, rfl, hi, ho⟩ := hx
  simp only at ho ⊢
  by_cases hlt : i < t.length
  · left
    exact ⟨_, long_step s o t i hlt ht hw ho, ⟨i + 1, rfl, by omega, rfl⟩, by simp only; omega, trivial⟩
  · right
    have : i = t.length := by omega
    subst this
    unfold index_Source_Long_l29
    simp [ho]
theorem long_mark (c : Int) (k : Nat) (b : List Int) (n : Int) (hc : c = 129 ∧ k = 2 ∨ c = 132 ∧ k = 3 ∨ c = 136 ∧ k = 4) (h0 : 0 ≤ n) (h1 : n < ((256 ^ k : Nat) : Int)) :
    index_Source_Long ⟨c :: (le n k ++ b), 0⟩ = some (n, ⟨b, 0⟩) := by
  unfold index_Source_Long
  rw [byte_cons, Option.bind_some]
  have hk : lkpI [(129, 2), (132, 3), (136, 4)] c = (k : Int) ∧ ¬ c ≤ 128 ∧ 2 ≤ k ∧ k ≤ 4 := by
    rcases hc with ⟨rfl, rfl⟩ | ⟨rfl, rfl⟩ | ⟨rfl, rfl⟩ <;> exact ⟨rfl, by decide, by decide, by decide⟩
  obtain ⟨hk, hc', k2, k4⟩ := hk
  have hz : ((k : Int) == 0) = false := by simp; omega
  simp only [hc', decide_false, Bool.false_eq_true, if_false, hk, hz]
  rw [take_ok _ (by omega) (by simp [le_length]; omega), Option.bind_some]
  simp only [Int.toNat_natCast]
  have e1 : List.take k (le n k ++ b) = le n k := by rw [List.take_append_of_le_length (by rw [le_length]; omega), List.take_of_length_le (by rw [le_length]; omega)]
  have e2 : List.drop k (le n k ++ b) = b := by rw [List.drop_append_of_le_length (by rw [le_length]; omega), List.drop_of_length_le (by rw [le_length]; omega)]; rfl
  rw [e1, e2, long_loop _ _ (by rw [le_length]; omega) (le_wf n k), Option.bind_some, un_le k n h0, Int.emod_eq_of_lt h0 h1]
theorem long_lg {n : Int} (h0 : 0 ≤ n) (h1 : n ≤ 4294967295) (b : List Int) : index_Source_Long ⟨lg n ++ b, 0⟩ = some (n, ⟨b, 0⟩) := by
  unfold lg
  by_cases a1 : n ≤ 128
  · simp only [a1, if_true, le, List.cons_append, List.nil_append]
    unfold index_Source_Long
    rw [byte_cons, Option.bind_some, show n % 256 = n by omega]
    simp only [a1, decide_true, if_true, wrap_u32', show n % 4294967296 = n by omega]
  · by_cases a2 : n < 65536
    · simp only [a1, a2, if_true, if_false]
      exact long_mark 129 2 b n (.inl ⟨rfl, rfl⟩) h0 (by omega)
    · by_cases a3 : n < 16777216
      · simp only [a1, a2, a3, if_true, if_false]
        exact long_mark 132 3 b n (.inr (.inl ⟨rfl, rfl⟩)) h0 (by omega)
      · simp only [a1, a2, a3, if_false]
        exact long_mark 136 4 b n (.inr (.inr ⟨rfl, rfl⟩)) h0 (by omega)
theorem number_le {n : Int} (h0 : 0 ≤ n) (h1 : n ≤ 4294967295) (b : List Int) : index_Source_Number ⟨le n 4 ++ b, 0⟩ = some (n, ⟨b, 0⟩) := by
  unfold index_Source_Number
  have e : le n 4 ++ b = le (n % 65536) 2 ++ (le (n / 65536) 2 ++ b) := by
    simp only [le, List.cons_append, List.nil_append, List.cons.injEq, and_true]
    refine ⟨by omega, by omega, by omega, by omega⟩
  rw [e, word_le (by omega) (by omega), Option.bind_some]
  simp only
  rw [word_le (by omega) (by omega), Option.bind_some]
  have es : shlI .u32 (n / 65536 % 4294967296) 16 = n / 65536 * 65536 := by
    rw [show n / 65536 % 4294967296 = n / 65536 by omega]
    show IntKind.wrap .u32 (n / 65536 * 65536) = _
    rw [wrap_u32']; omega
  simp only [es, wrap_u32', show n % 65536 % 4294967296 = n % 65536 by omega]
  rw [or_u32 16 (n / 65536).toNat (by omega) (by omega) (by omega) (by omega)]
  congr 2
  omega
theorem long_end (e : Int) (he : e ≠ 0) : index_Source_Long ⟨[], e⟩ = some (0, ⟨[], e⟩) := by
  unfold index_Source_Long
  rw [byte_end e he, Option.bind_some]
  rfl
theorem long_bad (c : Int) (r : List Int) (h : c = 133 ∨ c = 137) : index_Source_Long ⟨c :: r, 0⟩ = some (0, ⟨[], 3⟩) := by
  unfold index_Source_Long
  rw [byte_cons, Option.bind_some]
  rcases h with rfl | rfl <;> simp [lkpI, lkpO, index_Source_Wrong]
theorem enc_wf (s : List UInt8) (h : s.length ≤ 255) : ∀ c ∈ enc s, wfI .u8 c := by
  intro c hc
  simp only [enc, List.mem_cons] at hc
  rcases hc with rfl | hc
  · exact wfI_u8.2 ⟨by omega, by omega⟩
  · exact s2b_wf s c hc
theorem awake_true : hansomlaw19_awake = some true := by
  unfold hansomlaw19_awake
  rw [from_spec _ (by simp), Option.bind_some, index_two 129 44 _ (by omega) (by omega) (by omega) (by omega), Option.bind_some]
  have e : ([2, 65, 66] : List Int) = enc [65, 66] ++ [] := rfl
  simp only [e]
  rw [enc_name _ (by simp), Option.bind_some, index_Put_spec, Option.bind_some]
  simp only [end_spec]
  rfl

end Go.Es.Ixs
