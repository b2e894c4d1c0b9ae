/- What the functions answer, in plain Lean. No condition. -/
import Derived.Test.YtikbjljifgadmaaItmP
import Derived.KernelRfl
set_option linter.unusedVariables false
set_option linter.unusedSimpArgs false
set_option maxHeartbeats 4000000
set_option maxRecDepth 100000
namespace Go.Es.Itm

theorem cut_min {α : Type} (l : List α) (k : Nat) : cutL l 0 (mnI (l.length : Int) (k : Int)) = some (l.take k) := by
  rw [mnI_eq, cutL_eq (by omega) (by omega) (by omega)]
  have : (min (l.length : Int) (k : Int)).toNat = min l.length k := by omega
  simp only [Int.toNat_zero, List.drop_zero, Nat.sub_zero, this]
  congr 1
  by_cases h : k ≤ l.length
  · rw [Nat.min_eq_right h]
  · rw [Nat.min_eq_left (by omega), List.take_of_length_le (by omega), List.take_of_length_le (by omega)]
theorem cut_to {α : Type} (l : List α) {k : Nat} (h : k ≤ l.length) : cutL l 0 (k : Int) = some (l.take k) := by
  rw [cutL_eq (by omega) (by omega) (by omega)]; simp
theorem b2s_s2b (s : List UInt8) : b2s (s2b s) = s := by
  simp only [b2s, s2b, List.map_map]
  conv => rhs; rw [← List.map_id s]
  apply List.map_congr_left
  intro c _
  simp
theorem s2b_b2s {l : List Int} (h : ∀ c ∈ l, wfI .u8 c) : s2b (b2s l) = l := by
  simp only [b2s, s2b, List.map_map]
  conv => rhs; rw [← List.map_id l]
  apply List.map_congr_left
  intro c hc
  obtain ⟨h0, h1⟩ := wfI_u8.1 (h c hc)
  simp only [Function.comp, id, UInt8.toNat_ofNat']
  omega
theorem b2s_append (a b : List Int) : b2s (a ++ b) = b2s a ++ b2s b := by simp [b2s]
theorem b2s_cons (a : Int) (b : List Int) : b2s (a :: b) = UInt8.ofNat a.toNat :: b2s b := rfl
theorem s2b_append (a b : List UInt8) : s2b (a ++ b) = s2b a ++ s2b b := by simp [s2b]
theorem s2b_length (s : List UInt8) : (s2b s).length = s.length := by simp [s2b]
theorem b2s_length (s : List Int) : (b2s s).length = s.length := by simp [b2s]
theorem s2b_take (s : List UInt8) (k : Nat) : s2b (s.take k) = (s2b s).take k := by simp [s2b, List.map_take]
theorem s2b_wf (s : List UInt8) : ∀ c ∈ s2b s, wfI .u8 c := by
  intro c hc
  simp only [s2b, List.mem_map] at hc
  obtain ⟨x, _, rfl⟩ := hc
  have := x.toNat_lt
  exact wfI_u8.2 ⟨by omega, by omega⟩

/-! ### sources -/
theorem from_spec (b : List Int) (h : b.length ≤ 2 ^ 40) : index_From b = some ⟨b, 0⟩ := by
  unfold index_From
  rw [grow_eq (by simp; omega) (by simp; omega)]; rfl
theorem take_ok (s : Source) {n : Int} (h0 : 0 ≤ n) (h1 : n ≤ (s.b.length : Int)) : index_Source_Take s n = some (s.b.take n.toNat, ⟨s.b.drop n.toNat, s.e⟩) := by
  unfold index_Source_Take
  have e1 : ¬ n < 0 := by omega
  have e2 : ¬ n > (s.b.length : Int) := by omega
  simp only [e1, e2, decide_false, Bool.false_eq_true, if_false]
  rw [cut3_eq (by omega) h0 (by omega) h1, cutL_eq h0 h1 (by omega)]
  simp only [Option.bind_some, Int.toNat_zero, List.drop_zero, Nat.sub_zero, Int.toNat_natCast]
  have hd : List.take (s.b.length - n.toNat) (List.drop n.toNat s.b) = List.drop n.toNat s.b := List.take_of_length_le (by rw [List.length_drop]; omega)
  rw [hd]
theorem take_short (b : List Int) {n : Int} (h : n < 0 ∨ (b.length : Int) < n) : index_Source_Take ⟨b, 0⟩ n = some ([], ⟨[], 2⟩) := by
  unfold index_Source_Take
  rcases h with h | h
  · simp [h, index_Source_Wrong]
  · by_cases h0 : n < 0
    · simp [h0, index_Source_Wrong]
    · simp [h0, h, index_Source_Wrong]
theorem byte_cons (c : Int) (r : List Int) (e : Int) : index_Source_Byte ⟨c :: r, e⟩ = some (c, ⟨r, e⟩) := by
  unfold index_Source_Byte
  rw [take_ok _ (by omega) (by simp only [List.length_cons]; omega)]
  simp [idx]
theorem byte_nil : index_Source_Byte ⟨[], 0⟩ = some (0, ⟨[], 2⟩) := by
  unfold index_Source_Byte
  rw [take_short _ (by simp)]
  simp
theorem byte_end (e : Int) (he : e ≠ 0) : index_Source_Byte ⟨[], e⟩ = some (0, ⟨[], e⟩) := by
  unfold index_Source_Byte index_Source_Take
  simp [index_Source_Wrong, he]
theorem name_ok (c : Int) (r : List Int) (e : Int) (h0 : 0 ≤ c) (h1 : c ≤ 255) (h2 : c.toNat ≤ r.length) : index_Source_Name ⟨c :: r, e⟩ = some (b2s (r.take c.toNat), ⟨r.drop c.toNat, e⟩) := by
  unfold index_Source_Name
  rw [byte_cons, Option.bind_some]
  simp only [wrap64 (n := c) (by omega) (by omega)]
  rw [take_ok _ h0 (by simp only; omega)]; rfl
theorem name_short (c : Int) (r : List Int) (h0 : 0 ≤ c) (h1 : c ≤ 255) (h2 : r.length < c.toNat) : index_Source_Name ⟨c :: r, 0⟩ = some ([], ⟨[], 2⟩) := by
  unfold index_Source_Name
  rw [byte_cons, Option.bind_some]
  simp only [wrap64 (n := c) (by omega) (by omega)]
  rw [take_short _ (by omega)]; rfl
theorem name_nil : index_Source_Name ⟨[], 0⟩ = some ([], ⟨[], 2⟩) := by
  unfold index_Source_Name
  rw [byte_nil, Option.bind_some]
  simp only [show IntKind.wrap .i64 0 = 0 from rfl]
  rw [take_ok _ (by omega) (by simp)]; rfl
theorem end_spec (b : List Int) (e : Int) : index_Source_End ⟨b, e⟩ = some (if b = [] ∨ e ≠ 0 then (e, ⟨b, e⟩) else (3, ⟨[], 3⟩)) := by
  unfold index_Source_End index_Source_Left index_Source_Err index_Source_Wrong
  cases b with
  | nil => simp
  | cons x r =>
    by_cases he : e = 0
    · have : ¬ ((r.length : Int) + 1 ≤ 0) := by omega
      simp [he, this]
    · have : ¬ ((r.length : Int) + 1 ≤ 0) := by omega
      simp [he, this]

/-! ### names -/
/-- a name's bytes -/
def enc (s : List UInt8) : List Int := (s.length : Int) :: s2b s
theorem enc_length (s : List UInt8) : (enc s).length = s.length + 1 := by simp [enc, s2b]

theorem name_spec (s : List UInt8) (h : s.length ≤ 255) : index_Name s = some (enc s) := by
  unfold index_Name
  rw [show (255 : Int) = ((255 : Nat) : Int) from rfl, cut_min, List.take_of_length_le h, Option.bind_some, grow_eq (by simp [s2b]; omega) (by simp [s2b]; omega)]
  simp only [Option.bind_some, enc, wrapu8 (n := (s.length : Int)) (by omega) (by omega)]; rfl
theorem enc_name (s : List UInt8) (h : s.length ≤ 255) (r : List Int) : index_Source_Name ⟨enc s ++ r, 0⟩ = some (s, ⟨r, 0⟩) := by
  have hl : (s.length : Int).toNat = (s2b s).length := by rw [s2b_length]; omega
  have hl2 : (s.length : Int).toNat ≤ (s2b s ++ r).length := by rw [hl, List.length_append]; omega
  rw [enc, List.cons_append, name_ok _ _ _ (by omega) (by omega) hl2, hl]
  simp [b2s_s2b]


/-! ### bytes -/
theorem wrap_u8' (n : Int) : IntKind.wrap .u8 n = n % 256 := by simp [IntKind.wrap, IntKind.bits, IntKind.signed]
theorem or128 {x : Int} (h0 : 0 ≤ x) (h1 : x < 128) : bitsOp .or .u8 x 128 = x + 128 := by
  have : ∀ n : Fin 128, bitsOp .or .u8 (n.val : Int) 128 = (n.val : Int) + 128 := by decide
  have := this ⟨x.toNat, by omega⟩
  simp only at this
  rw [Int.toNat_of_nonneg h0] at this
  exact this
/-- the low bytes of a number -/
def le : Int → Nat → List Int
  | _, 0 => []
  | n, k + 1 => n % 256 :: le (n / 256) k
theorem le_length (n : Int) (k : Nat) : (le n k).length = k := by
  induction k generalizing n with
  | zero => rfl
  | succ k ih => simp [le, ih]
/-- an index's bytes -/
def ix (n : Int) : List Int := if n < 0 ∨ 32767 < n then [0] else if n < 128 then [n] else [n / 256 + 128, n % 256]
theorem index_Put_spec (n : Int) : index_Put n = some (ix n) := by
  unfold index_Put ix
  by_cases h0 : n < 0
  · simp [h0]
  · by_cases h1 : n > 32767
    · simp [h0, h1]
    · by_cases h2 : n < 128
      · simp [h0, h1, h2, wrapu8 (n := n) (by omega) (by omega)]
      · simp only [h0, h1, h2, decide_false, Bool.false_eq_true, if_false, show ¬ (n < 0 ∨ 32767 < n) from by omega]
        have e : shrI .i64 n 8 = n / 256 := shr_eq (j := 8) (by decide)
        rw [e, wrapu8 (n := n / 256) (by omega) (by omega), or128 (by omega) (by omega), wrap_u8']; simp only [or_self, if_false]
/-! ### words and indexes that are read -/
theorem or_i64 {x y : Int} (j : Nat) (a : Nat) (hx : x = ((2 ^ j * a : Nat) : Int)) (hb : 2 ^ j * a + 2 ^ j ≤ 2 ^ 62) (h0 : 0 ≤ y) (h1 : y < (2 ^ j : Nat)) : bitsOp .or .i64 x y = x + y := by
  have e : bitsOp .or .i64 x y = IntKind.wrap .i64 (((BitVec.ofInt 64 x ||| BitVec.ofInt 64 y).toNat : Nat) : Int) := rfl
  have e1 : (BitVec.ofInt 64 x).toNat = 2 ^ j * a := by rw [BitVec.toNat_ofInt]; omega
  have e2 : (BitVec.ofInt 64 y).toNat = y.toNat := by rw [BitVec.toNat_ofInt]; omega
  have h2 : y.toNat < 2 ^ j := by omega
  rw [e, BitVec.toNat_or, e1, e2, ← Nat.two_pow_add_eq_or_of_lt h2, wrap64 (by omega) (by omega)]
  omega
theorem and127 (x : Int) : bitsOp .and .i64 x 127 = x % 128 := and_mask x 7 (by omega)
theorem or_hi {x y : Int} (hx0 : 128 ≤ x) (hx : x ≤ 255) (h0 : 0 ≤ y) (h1 : y ≤ 255) : bitsOp .or .i64 (shlI .i64 (bitsOp .and .i64 x 127) 8) y = (x - 128) * 256 + y := by
  have e : shlI .i64 (bitsOp .and .i64 x 127) 8 = (x - 128) * 256 := by
    rw [and127, show x % 128 = x - 128 by omega]
    show IntKind.wrap .i64 ((x - 128) * 256) = _
    exact wrap64 (by omega) (by omega)
  rw [e, or_i64 8 (x - 128).toNat (by omega) (by omega) h0 (by omega)]
theorem index_one (c : Int) (r : List Int) (e : Int) (h0 : 0 ≤ c) (h1 : c < 128) : index_Source_Index ⟨c :: r, e⟩ = some (c, ⟨r, e⟩) := by
  unfold index_Source_Index
  rw [byte_cons, Option.bind_some]
  simp only [wrap64 (n := c) (by omega) (by omega), h1, decide_true, if_true]
theorem index_two (c d : Int) (r : List Int) (h0 : 128 ≤ c) (h1 : c ≤ 255) (h2 : 0 ≤ d) (h3 : d ≤ 255) : index_Source_Index ⟨c :: d :: r, 0⟩ = some ((c - 128) * 256 + d, ⟨r, 0⟩) := by
  unfold index_Source_Index
  rw [byte_cons, Option.bind_some]
  simp only [wrap64 (n := c) (by omega) (by omega), show ¬ c < 128 by omega, decide_false, Bool.false_eq_true, if_false]
  rw [byte_cons, Option.bind_some]
  simp only [index_Source_Err, Option.bind_some, wrap64 (n := d) (by omega) (by omega), or_hi h0 h1 h2 h3]
  rfl
theorem index_cut (c : Int) (h0 : 128 ≤ c) (h1 : c ≤ 255) : index_Source_Index ⟨[c], 0⟩ = some (0, ⟨[], 2⟩) := by
  unfold index_Source_Index
  rw [byte_cons, Option.bind_some]
  simp only [wrap64 (n := c) (by omega) (by omega), show ¬ c < 128 by omega, decide_false, Bool.false_eq_true, if_false]
  rw [byte_nil]; rfl
theorem index_nil : index_Source_Index ⟨[], 0⟩ = some (0, ⟨[], 2⟩) := by
  unfold index_Source_Index
  rw [byte_nil]; rfl
theorem index_end : index_Source_Index ⟨[], 2⟩ = some (0, ⟨[], 2⟩) := by
  unfold index_Source_Index
  rw [byte_end 2 (by decide)]; rfl
/-- what is read of any bytes -/
def rdIx : List Int → Option (Int × List Int)
  | [] => none
  | c :: r => if c < 128 then some (c, r) else match r with | [] => none | d :: r => some ((c - 128) * 256 + d, r)
theorem index_any (b : List Int) (h : ∀ c ∈ b, wfI .u8 c) : index_Source_Index ⟨b, 0⟩ = some (match rdIx b with | some (v, r) => (v, ⟨r, 0⟩) | none => (0, ⟨[], 2⟩)) := by
  match b, h with
  | [], _ => simp [rdIx, index_nil]
  | c :: r, h =>
    obtain ⟨c0, c1⟩ := wfI_u8.1 (h c (by simp))
    by_cases hc : c < 128
    · simp [rdIx, hc, index_one c r 0 c0 hc]
    · match r, h with
      | [], _ => simp [rdIx, hc, index_cut c (by omega) c1]
      | d :: r, h =>
        obtain ⟨d0, d1⟩ := wfI_u8.1 (h d (by simp))
        simp [rdIx, hc, index_two c d r (by omega) c1 d0 d1]
theorem rdIx_len {b : List Int} {v : Int} {r : List Int} (h : rdIx b = some (v, r)) : r.length + 1 ≤ b.length ∧ ∀ c ∈ r, c ∈ b := by
  cases b with
  | nil => simp [rdIx] at h
  | cons c t =>
    by_cases hc : c < 128
    · simp only [rdIx, hc, if_true, Option.some.injEq, Prod.mk.injEq] at h
      obtain ⟨rfl, rfl⟩ := h
      exact ⟨by simp, fun c hc => by simp [hc]⟩
    · cases t with
      | nil => simp [rdIx, hc] at h
      | cons d t =>
        simp only [rdIx, hc, if_false, Option.some.injEq, Prod.mk.injEq] at h
        obtain ⟨rfl, rfl⟩ := h
        exact ⟨by simp, fun c hc => by simp [hc]⟩
theorem rdIx_lo {b : List Int} {v : Int} {r : List Int} (hb : ∀ c ∈ b, wfI .u8 c) (h : rdIx b = some (v, r)) : 0 ≤ v ∧ v ≤ 32767 := by
  cases b with
  | nil => simp [rdIx] at h
  | cons c t =>
    obtain ⟨c0, c1⟩ := wfI_u8.1 (hb c (by simp))
    by_cases hc : c < 128
    · simp only [rdIx, hc, if_true, Option.some.injEq, Prod.mk.injEq] at h
      obtain ⟨rfl, rfl⟩ := h
      omega
    · cases t with
      | nil => simp [rdIx, hc] at h
      | cons d t =>
        obtain ⟨d0, d1⟩ := wfI_u8.1 (hb d (by simp))
        simp only [rdIx, hc, if_false, Option.some.injEq, Prod.mk.injEq] at h
        obtain ⟨rfl, rfl⟩ := h
        omega
theorem rdIx_ix {n : Int} (h0 : 0 ≤ n) (h1 : n ≤ 32767) (r : List Int) : rdIx (ix n ++ r) = some (n, r) := by
  unfold ix
  rw [if_neg (by omega)]
  by_cases h : n < 128
  · simp [h, rdIx]
  · have : ¬ (n / 256 + 128 < 128) := by omega
    simp only [h, if_false, List.cons_append, List.nil_append, rdIx, this]
    simp only [Option.some.injEq, Prod.mk.injEq, and_true]; omega
theorem ix_wf (n : Int) : ∀ c ∈ ix n, wfI .u8 c := by
  intro c hc
  unfold ix at hc
  split at hc
  · simp only [List.mem_singleton] at hc; subst hc; exact wfI_u8.2 ⟨by omega, by omega⟩
  · split at hc
    · simp only [List.mem_singleton] at hc; subst hc; exact wfI_u8.2 ⟨by omega, by omega⟩
    · simp only [List.mem_cons, List.not_mem_nil, or_false] at hc
      rcases hc with rfl | rfl
      · exact wfI_u8.2 ⟨by omega, by omega⟩
      · exact wfI_u8.2 ⟨by omega, by omega⟩
theorem ix_len (n : Int) : 1 ≤ (ix n).length ∧ (ix n).length ≤ 2 := by
  unfold ix; split
  · simp
  · split <;> simp
theorem le_wf (n : Int) (k : Nat) : ∀ c ∈ le n k, wfI .u8 c := by
  induction k generalizing n with
  | zero => intro c hc; simp [le] at hc
  | succ k ih =>
    intro c hc
    simp only [le, List.mem_cons] at hc
    rcases hc with rfl | hc
    · exact wfI_u8.2 ⟨by omega, by omega⟩
    · exact ih _ c hc
theorem index_ix {n : Int} (h0 : 0 ≤ n) (h1 : n ≤ 32767) (r : List Int) (hr : ∀ c ∈ r, wfI .u8 c) : index_Source_Index ⟨ix n ++ r, 0⟩ = some (n, ⟨r, 0⟩) := by
  rw [index_any _ (fun c hc => by rcases List.mem_append.1 hc with hc | hc; exact ix_wf n c hc; exact hr c hc), rdIx_ix h0 h1]
theorem or_u16 {x y : Int} (j : Nat) (a : Nat) (hx : x = ((2 ^ j * a : Nat) : Int)) (hb : 2 ^ j * a + 2 ^ j ≤ 2 ^ 16) (h0 : 0 ≤ y) (h1 : y < (2 ^ j : Nat)) : bitsOp .or .u16 y x = y + x := by
  have e : bitsOp .or .u16 y x = IntKind.wrap .u16 (((BitVec.ofInt 16 y ||| BitVec.ofInt 16 x).toNat : Nat) : Int) := rfl
  have e1 : (BitVec.ofInt 16 x).toNat = 2 ^ j * a := by rw [BitVec.toNat_ofInt]; omega
  have e2 : (BitVec.ofInt 16 y).toNat = y.toNat := by rw [BitVec.toNat_ofInt]; omega
  have h2 : y.toNat < 2 ^ j := by omega
  rw [e, BitVec.toNat_or, e1, e2, Nat.or_comm, ← Nat.two_pow_add_eq_or_of_lt h2, wrapu16 (by omega) (by omega)]
  omega
theorem bits_Word_spec {l h : Int} (l0 : 0 ≤ l) (l1 : l ≤ 255) (h0 : 0 ≤ h) (h1 : h ≤ 255) : bits_Word l h = some (l + h * 256) := by
  unfold bits_Word
  have e : shlI .u16 (IntKind.wrap .u16 h) 8 = h * 256 := by
    rw [wrapu16 (by omega) (by omega)]
    show IntKind.wrap .u16 (h * 256) = _
    exact wrapu16 (by omega) (by omega)
  rw [e, wrapu16 (n := l) (by omega) (by omega), or_u16 8 h.toNat (by omega) (by omega) l0 (by omega)]
theorem word_cons (c d : Int) (r : List Int) (e : Int) (c0 : wfI .u8 c) (d0 : wfI .u8 d) : index_Source_Word ⟨c :: d :: r, e⟩ = some (c + d * 256, ⟨r, e⟩) := by
  obtain ⟨c0, c1⟩ := wfI_u8.1 c0
  obtain ⟨d0, d1⟩ := wfI_u8.1 d0
  unfold index_Source_Word
  rw [take_ok _ (by omega) (by simp only [List.length_cons]; omega)]
  simp [idx, bits_Word_spec c0 c1 d0 d1]
theorem word_short (b : List Int) (h : b.length < 2) : index_Source_Word ⟨b, 0⟩ = some (0, ⟨[], 2⟩) := by
  unfold index_Source_Word
  rw [take_short _ (by omega)]
  simp
theorem word_end : index_Source_Word ⟨[], 2⟩ = some (0, ⟨[], 2⟩) := by
  unfold index_Source_Word index_Source_Take
  simp [index_Source_Wrong]
theorem word_le {w : Int} (h0 : 0 ≤ w) (h1 : w ≤ 65535) (r : List Int) : index_Source_Word ⟨le w 2 ++ r, 0⟩ = some (w, ⟨r, 0⟩) := by
  have := word_cons (w % 256) (w / 256 % 256) r 0 (le_wf w 2 _ (by simp [le])) (le_wf w 2 _ (by simp [le]))
  simp only [le, List.cons_append, List.nil_append, this, Option.some.injEq, Prod.mk.injEq, and_true]
  omega
def rdW : List Int → Option (Int × List Int)
  | c :: d :: r => some (c + d * 256, r)
  | _ => none
theorem word_any (b : List Int) (h : ∀ c ∈ b, wfI .u8 c) : index_Source_Word ⟨b, 0⟩ = some (match rdW b with | some (v, r) => (v, ⟨r, 0⟩) | none => (0, ⟨[], 2⟩)) := by
  match b, h with
  | [], _ => simp [rdW, word_short]
  | [c], _ => simp [rdW, word_short]
  | c :: d :: r, h => simp [rdW, word_cons c d r 0 (h c (by simp)) (h d (by simp))]
theorem rdW_len {b : List Int} {v : Int} {r : List Int} (h : rdW b = some (v, r)) : r.length + 2 = b.length ∧ ∀ c ∈ r, c ∈ b := by
  match b, h with
  | c :: d :: t, h => cases h; exact ⟨by simp, fun c hc => by simp [hc]⟩
theorem rdW_lo {b : List Int} {v : Int} {r : List Int} (hb : ∀ c ∈ b, wfI .u8 c) (h : rdW b = some (v, r)) : 0 ≤ v ∧ v ≤ 65535 := by
  match b, hb, h with
  | c :: d :: t, hb, h =>
    obtain ⟨c0, c1⟩ := wfI_u8.1 (hb c (by simp))
    obtain ⟨d0, d1⟩ := wfI_u8.1 (hb d (by simp))
    cases h; omega
theorem index_Two_spec {w : Int} (h0 : 0 ≤ w) (h1 : w ≤ 65535) : index_Two w = some (le w 2) := by
  unfold index_Two bits_Low bits_High
  have e : shrI .u16 w 8 = w / 256 := shr_eq (j := 8) (by decide)
  simp only [Option.bind_some, e, wrap_u8', le]
/-! ### publics -/
/-! ### lists of blocks -/
theorem Block.d_inj {a b : Block} (h : Block.d a = Block.d b) : a = b := by
  obtain ⟨t, y, l⟩ := a
  obtain ⟨t', y', l'⟩ := b
  simp only [Block.d, Block.cs, D.agg.injEq, List.cons.injEq, D.int.injEq, D.sl.injEq, true_and, and_true, List.map_id] at h
  obtain ⟨rfl, h2, rfl⟩ := h
  have := (List.map_inj_right (fun x y (h : D.int .u8 x = D.int .u8 y) => by cases h; rfl)).1 h2
  subst this
  rfl
theorem ofD_d (b : Block) : ofD Block.d (Block.d b) = some b := ofD_f (fun _ _ => Block.d_inj) b
theorem idx_d (bs : List Block) {i : Nat} (h : i < bs.length) : idx (bs.map Block.d) (i : Int) = some (Block.d bs[i]) := by
  rw [idx_nat (by simpa using h)]; simp

theorem fold_loop {σ : Type} {n : Nat} {f : σ × Int → Option (Lp (σ × Int) σ)} (inv : Nat → σ → Prop)
    (h : ∀ s (i : Nat), i < n → inv i s → ∃ s', f (s, (i : Int)) = some (.next (s', ((i + 1 : Nat) : Int))) ∧ inv (i + 1) s')
    (he : ∀ s, inv n s → f (s, (n : Int)) = some (.out s)) {s0 : σ} (h0 : inv 0 s0) : ∃ s, loopO f (s0, 0) = some s ∧ inv n s := by
  refine loop_rule (fun x => ∃ i : Nat, i ≤ n ∧ x.2 = (i : Int) ∧ inv i x.1) (fun x => n - x.2.toNat) (fun s => inv n s) ?_ ⟨0, by omega, rfl, h0⟩
  rintro ⟨s, j⟩ ⟨i, hi, hj, hs⟩
  simp only at hj hs ⊢
  subst hj
  rcases Nat.lt_or_ge i n with hlt | hge
  · obtain ⟨s', h1, h2⟩ := h s i hlt hs
    exact .inl ⟨_, h1, ⟨i + 1, by omega, rfl, h2⟩, by simp only; omega⟩
  · obtain rfl : i = n := by omega
    exact .inr ⟨s, he s hs, hs⟩
theorem fold_loop1 {β : Type} {n : Nat} {f : Int → Option (Lp Int β)} {b : β}
    (h : ∀ (i : Nat), i < n → f (i : Int) = some (.next ((i + 1 : Nat) : Int))) (he : f (n : Int) = some (.out b)) : loopO f 0 = some b := by
  obtain ⟨c, h1, h2⟩ := loop_rule (f := f) (fun x => ∃ i : Nat, i ≤ n ∧ x = (i : Int)) (fun x => n - x.toNat) (fun s => s = b) (by
    rintro j ⟨i, hi, rfl⟩
    rcases Nat.lt_or_ge i n with hlt | hge
    · exact .inl ⟨_, h i hlt, ⟨i + 1, by omega, rfl⟩, by omega⟩
    · obtain rfl : i = n := by omega
      exact .inr ⟨b, he, rfl⟩) (x := 0) ⟨0, by omega, rfl⟩
  rw [h1, h2]
theorem wrapS {i : Nat} (h : i ≤ 2 ^ 62) : IntKind.wrap .i64 ((i : Int) + 1) = ((i + 1 : Nat) : Int) := by rw [wrap64 (by omega) (by omega)]; omega

theorem flat_len {α : Type} {M : Nat} {g : Block → List α} : ∀ {l : List Block}, (∀ b ∈ l, (g b).length ≤ M) → (l.flatMap g).length ≤ l.length * M
  | [], _ => by simp
  | a :: r, h => by
    have h1 := h a (by simp)
    have h2 := flat_len (l := r) fun b hb => h b (by simp [hb])
    simp only [List.flatMap_cons, List.length_append, List.length_cons, Nat.add_mul, Nat.one_mul]
    omega
theorem take_flat {α : Type} {g : Block → List α} {l : List Block} {i : Nat} (h : i < l.length) : (l.take (i + 1)).flatMap g = (l.take i).flatMap g ++ g l[i] := by
  rw [List.take_succ_eq_append_getElem h, List.flatMap_append]; simp
theorem takes_len {α : Type} {M : Nat} {g : Block → List α} {l : List Block} (h : ∀ b ∈ l, (g b).length ≤ M) (i : Nat) : ((l.take i).flatMap g).length ≤ l.length * M := by
  refine Nat.le_trans (flat_len fun b hb => h b (List.mem_of_mem_take hb)) (Nat.mul_le_mul_right _ ?_)
  simp; omega

/-! ### so many times -/
def rep {α : Type} (t : Nat) (s : List α) : List α := (List.replicate t s).flatten
theorem rep_len {α : Type} (t : Nat) (s : List α) : (rep t s).length = t * s.length := by simp [rep]
theorem rep_succ {α : Type} (t : Nat) (s : List α) : rep (t + 1) s = rep t s ++ s := by
  simp only [rep]; rw [List.replicate_succ', List.flatten_concat]
theorem rep_add {α : Type} (a b : Nat) (s : List α) : rep (a + b) s = rep a s ++ rep b s := by
  simp only [rep]; rw [← List.replicate_append_replicate, List.flatten_append]
theorem b2s_rep (t : Nat) (s : List Int) : b2s (rep t s) = rep t (b2s s) := by
  induction t with
  | zero => rfl
  | succ t ih => rw [rep_succ, rep_succ, b2s_append, ih]

theorem and_u64 {x : Int} (h0 : 0 ≤ x) (h1 : x < 4294967296) : bitsOp .and .u64 x 4294967295 = x := by
  have e1 : (BitVec.ofInt 64 (4294967295 : Int)).toNat = 2 ^ 32 - 1 := by decide
  have e2 : (BitVec.ofInt 64 x).toNat = x.toNat := by rw [BitVec.toNat_ofInt]; omega
  have e3 : bitsOp .and .u64 x 4294967295 = IntKind.wrap .u64 (((BitVec.ofInt 64 x &&& BitVec.ofInt 64 (4294967295 : Int)).toNat : Nat) : Int) := rfl
  rw [e3, BitVec.toNat_and, e1, Nat.and_two_pow_sub_one_eq_mod, e2, wrap_u64']
  omega
theorem shr_u64 (x : Int) : shrI .u64 x 32 = x / 4294967296 := shr_eq (k := .u64) (j := 32) (by decide)
theorem mul_spec {x y : Int} (hx : 0 ≤ x) (hy : 0 ≤ y) (hx1 : x < 4294967296) (hy1 : y < 4294967296) (hxy : x * y < 4294967296) : math_bits_Mul x y = some (0, x * y) := by
  have h0 : 0 ≤ x * y := Int.mul_nonneg hx hy
  unfold math_bits_Mul math_bits_Mul64
  have e1 : shrI .u64 x 32 = 0 := by rw [shr_u64]; omega
  have e2 : shrI .u64 y 32 = 0 := by rw [shr_u64]; omega
  have e3 : IntKind.wrap .u64 (x * y) = x * y := by rw [wrap_u64']; omega
  have e4 : shrI .u64 (x * y) 32 = 0 := by rw [shr_u64]; omega
  have e5 : IntKind.wrap .u64 0 = 0 := rfl
  have e6 : shrI .u64 0 32 = 0 := rfl
  have e7 : bitsOp .and .u64 0 4294967295 = 0 := and_u64 (by omega) (by omega)
  simp only [Option.bind_some, e1, e2, and_u64 hx hx1, and_u64 hy hy1, e3, e4, Int.zero_mul, Int.mul_zero, Int.add_zero, e5, e6, e7]

/-- 'slices.Repeat' -/
theorem repeat_spec {x : List Int} {t : Nat} (hx : x.length < 2 ^ 31) (ht : t < 2 ^ 31) (hxt : x.length * t < 2 ^ 31) : slices_Repeat_Lbyte x (t : Int) = some (rep t x) := by
  unfold slices_Repeat_Lbyte
  have hm : ((x.length : Int) * (t : Int)) = ((x.length * t : Nat) : Int) := by omega
  rw [show IntKind.wrap .u64 (x.length : Int) = (x.length : Int) by rw [wrap_u64']; omega, show IntKind.wrap .u64 (t : Int) = (t : Int) by rw [wrap_u64']; omega,
    mul_spec (by omega) (by omega) (by omega) (by omega) (by omega)]
  generalize hL : x.length * t = L at *
  have c1 : ¬ ((t : Int) < 0) := by omega
  have c2 : ¬ ((0 : Int) > 0) := by omega
  have c3 : ¬ ((x.length : Int) * (t : Int) > 9223372036854775807) := by omega
  simp only [c1, c2, c3, decide_false, Bool.false_eq_true, if_false, Option.bind_some]
  rw [hm, wrap64 (by omega) (by omega), mk_eq (by omega) (by omega) (by omega)]
  simp only [Option.bind_some, Int.toNat_natCast, List.length_map, List.length_replicate]
  have hR : (rep t x).length = L := by rw [rep_len, Nat.mul_comm]; exact hL
  have step : ∀ p : List Int × Int, (∃ n : Nat, p.2 = (n : Int) ∧ p.1.length = L ∧ n ≤ L ∧ (n < L → 0 < n) ∧ p.1.take n = (rep t x).take n ∧ (n < L → ∃ j, j ≤ t ∧ n = x.length * j)) →
      (∃ y, slices_Repeat_Lbyte_l22 p.1 p.2 = some (.next y) ∧ (∃ n : Nat, y.2 = (n : Int) ∧ y.1.length = L ∧ n ≤ L ∧ (n < L → 0 < n) ∧ y.1.take n = (rep t x).take n ∧ (n < L → ∃ j, j ≤ t ∧ n = x.length * j)) ∧ (L - y.2.toNat) < (L - p.2.toNat)) ∨
      (∃ b, slices_Repeat_Lbyte_l22 p.1 p.2 = some (.out b) ∧ b = rep t x) := by
    rintro ⟨b, i⟩ ⟨n, hi, hb, hn, hpos, htk, hj⟩
    simp only at hi hb htk ⊢
    subst hi
    unfold slices_Repeat_Lbyte_l22
    by_cases hlt : n < L
    · left
      obtain ⟨j, hjt, hjn⟩ := hj hlt
      have hp := hpos hlt
      have c : (n : Int) < (L : Int) := by omega
      rw [cutL_eq (by omega) (by omega) (by omega), cut_to b (by omega)]
      simp only [c, decide_true, if_true, Option.bind_some, Int.toNat_natCast, Nat.zero_add, List.length_take, hb]
      generalize hk : min (min n L) (L - n) = k
      have hk0 : k = min n (L - n) := by omega
      rw [show IntKind.wrap .i64 ((n : Int) + ((k : Nat) : Int)) = ((n + k : Nat) : Int) by rw [wrap64 (by omega) (by omega)]; omega]
      refine ⟨_, rfl, ?_, by simp only [Int.toNat_natCast]; omega⟩
      refine ⟨n + k, rfl, by simp only [cpy_length]; exact hb, by omega, by omega, ?_, ?_⟩
      · unfold cpy
        rw [if_pos (by omega), List.length_take, hb, hk]
        rw [List.take_append_of_le_length (by simp [hb]; omega)]
        rw [List.take_of_length_le (by simp [hb]; omega)]
        rw [htk, List.take_take, Nat.min_eq_left (by omega : k ≤ n)]
        have e : rep t x = rep j x ++ rep (t - j) x := by rw [← rep_add]; congr 1; omega
        have e' : rep t x = rep (t - j) x ++ rep j x := by rw [← rep_add]; congr 1; omega
        have lj : (rep j x).length = n := by rw [rep_len, Nat.mul_comm, hjn]
        have ltj : (rep (t - j) x).length = L - n := by
          have := congrArg List.length e; rw [List.length_append, hR, lj] at this; omega
        have h1 : (rep t x).take n = rep j x := by rw [e, List.take_append_of_le_length (by omega), List.take_of_length_le (by omega)]
        have h2 : (rep t x).take k = (rep (t - j) x).take k := by rw [e', List.take_append_of_le_length (by omega)]
        rw [h2, h1, e, ← lj, List.take_length_add_append]
      · intro hlt2
        refine ⟨2 * j, ?_, ?_⟩
        · have : k = n := by omega
          have h3 : x.length * (2 * j) < x.length * t := by rw [hL, Nat.mul_left_comm, ← hjn]; omega
          have := Nat.lt_of_mul_lt_mul_left h3
          omega
        · have : k = n := by omega
          rw [Nat.mul_left_comm, ← hjn]; omega
    · right
      have c : ¬ ((n : Int) < (b.length : Int)) := by omega
      simp only [c, decide_false, Bool.false_eq_true, if_false]
      have hnL : n = L := by omega
      refine ⟨_, rfl, ?_⟩
      rw [hnL, List.take_of_length_le (by omega), List.take_of_length_le (by omega)] at htk
      exact htk
  have start : ∃ n : Nat, (((min x.length L : Nat) : Int)) = (n : Int) ∧ (cpy (List.replicate L (0 : Int)) 0 L x).length = L ∧ n ≤ L ∧ (n < L → 0 < n) ∧ (cpy (List.replicate L (0 : Int)) 0 L x).take n = (rep t x).take n ∧ (n < L → ∃ j, j ≤ t ∧ n = x.length * j) := by
    have hcl : (cpy (List.replicate L (0 : Int)) 0 L x).length = L := by rw [cpy_length]; simp
    refine ⟨min x.length L, rfl, hcl, by omega, ?_, ?_, ?_⟩
    · intro hlt
      rcases Nat.eq_zero_or_pos x.length with h0 | h0
      · rw [h0] at hL; omega
      · omega
    · rcases Nat.eq_zero_or_pos t with h0 | h0
      · have : L = 0 := by rw [← hL, h0]; simp
        rw [this]; simp
      · have hle : x.length ≤ L := by rw [← hL]; exact Nat.le_mul_of_pos_right _ h0
        rw [Nat.min_eq_left hle]
        unfold cpy
        rw [if_pos (by simp), Nat.min_eq_left hle]
        simp only [List.take_zero, List.nil_append, List.take_length]
        rw [List.take_append_of_le_length (by simp), List.take_length]
        obtain ⟨t', rfl⟩ : ∃ t', t = 1 + t' := ⟨t - 1, by omega⟩
        have : rep 1 x = x := by simp [rep]
        rw [rep_add, this, List.take_append_of_le_length (by simp), List.take_length]
    · intro hlt
      have hle : x.length ≤ L := by omega
      rcases Nat.eq_zero_or_pos t with h0 | h0
      · rw [h0, Nat.mul_zero] at hL; omega
      · exact ⟨1, by omega, by omega⟩
  obtain ⟨b, h1, h2⟩ := loop_rule (f := fun x : List Int × Int => slices_Repeat_Lbyte_l22 x.1 x.2)
    (fun p => ∃ n : Nat, p.2 = (n : Int) ∧ p.1.length = L ∧ n ≤ L ∧ (n < L → 0 < n) ∧ p.1.take n = (rep t x).take n ∧ (n < L → ∃ j, j ≤ t ∧ n = x.length * j)) (fun p => L - p.2.toNat) (fun b => b = rep t x) step (x := (cpy (List.replicate L (0 : Int)) 0 L x, ((min x.length L : Nat) : Int))) start
  rw [h1, h2]; rfl
/-! ### small blocks that may be -/
inductive Nice : Nat → Block → Prop
  | leaf (n : Nat) (x : Block) (t0 : 1 ≤ x.Times) (t1 : x.Times ≤ 4) (hb : x.Blocks = []) (h1 : 1 ≤ x.Bytes.length) (h6 : x.Bytes.length ≤ 6) (hu : ∀ c ∈ x.Bytes, wfI .u8 c) : Nice n x
  | node (n : Nat) (x : Block) (bs : List Block) (t0 : 1 ≤ x.Times) (t1 : x.Times ≤ 4) (hB : x.Bytes = []) (hb : x.Blocks = bs.map Block.d) (h1 : 1 ≤ bs.length) (h3 : bs.length ≤ 3) (h : ∀ b ∈ bs, Nice n b) : Nice (n + 1) x

theorem Block.wf.get {x : Block} (h : Block.wf x) : wfI .i64 x.Times ∧ (x.Bytes.length ≤ maxLen ∧ ∀ c ∈ x.Bytes, wfI .u8 c) ∧ ∃ bs : List Block, x.Blocks = bs.map Block.d ∧ bs.length ≤ maxLen ∧ ∀ b ∈ bs, Block.wf b := by
  cases h with
  | mk _ h0 h1 bs hb hl hw => exact ⟨h0, h1, bs, hb, hl, hw⟩

theorem times_eq (t : Int) : IntKind.wrap .i64 (bitsOp .and .i64 t 3 + 1) = t % 4 + 1 := by
  have := and_mask t 2 (by omega)
  rw [show ((2 ^ 2 - 1 : Nat) : Int) = 3 from rfl] at this
  rw [this, wrap64 (by omega) (by omega)]
  rfl

/-! ### what they spread to -/
section
variable {x : Block} {bs : List Block} {g : Block → List Int}

theorem size_b (self : Block → Option Int) (hx : x.Blocks = bs.map Block.d) (hs : ∀ b ∈ bs, self b = some ((g b).length : Int)) (t0 : 0 ≤ x.Times) (t1 : x.Times ≤ 4) (h3 : bs.length ≤ 3)
    (hl : (x.Bytes ++ bs.flatMap g).length ≤ 16384) : iter_Size_b self x = some ((rep x.Times.toNat (x.Bytes ++ bs.flatMap g)).length : Int) := by
  have hmono : ∀ i, (x.Bytes ++ (bs.take i).flatMap g).length ≤ (x.Bytes ++ bs.flatMap g).length := fun i => by
    conv => rhs; rw [← List.take_append_drop i bs, List.flatMap_append]
    simp only [List.length_append]; omega
  unfold iter_Size_b
  rw [hx, List.length_map]
  obtain ⟨s, h1, rfl⟩ := fold_loop (n := bs.length) (f := fun y : Int × Int => iter_Size_l8 self x y.1 (bs.map Block.d) (bs.length : Int) y.2)
    (fun i s => s = ((x.Bytes ++ (bs.take i).flatMap g).length : Int)) (by
      rintro s i hi rfl
      have h2 := hmono (i + 1)
      rw [take_flat hi] at h2
      have h2' := h2
      simp only [List.length_append] at h2
      simp only
      unfold iter_Size_l8
      rw [idx_d bs hi]
      simp only [show ((i : Int) < (bs.length : Int)) from by omega, decide_true, if_true, Option.bind_some, ofD_d, hs _ (List.getElem_mem hi)]
      simp only [List.length_append] at hl
      rw [wrapS (by omega), wrap64 (by simp only [List.length_append]; omega) (by simp only [List.length_append]; omega), mnI_eq]
      refine ⟨_, rfl, ?_⟩
      rw [take_flat hi]
      simp only [List.length_append]
      omega) (by
      rintro s rfl
      simp only
      unfold iter_Size_l8
      simp) (s0 := (x.Bytes.length : Int)) (by simp)
  rw [h1, Option.bind_some, List.take_length, mxI_eq, mnI_eq, mnI_eq, rep_len]
  generalize (x.Bytes ++ bs.flatMap g).length = L at *
  obtain ⟨t, ht⟩ : ∃ t : Nat, x.Times = t := ⟨x.Times.toNat, by omega⟩
  rw [ht] at t0 t1 ⊢
  have h4 : min (max (t : Int) 0) 65537 = t := by omega
  have h5 : t * L ≤ 4 * 16384 := Nat.mul_le_mul (by omega) hl
  rw [h4, Int.toNat_natCast, show (L : Int) * (t : Int) = ((t * L : Nat) : Int) by rw [Nat.mul_comm]; omega, wrap64 (by omega) (by omega)]
  congr 1
  omega

theorem may_b (self : Block → Int → Option Bool) (e : Nat) (he : e ≤ 8) (hx : x.Blocks = bs.map Block.d) (hs : ∀ b ∈ bs, self b ((e : Int) + 1) = some true) (t0 : 1 ≤ x.Times) (t1 : x.Times ≤ 4)
    (hB : bs = [] ∧ 1 ≤ x.Bytes.length ∧ x.Bytes.length ≤ 6 ∨ bs ≠ [] ∧ x.Bytes = []) (h3 : bs.length ≤ 3) : iter_may_b self x (e : Int) = some true := by
  unfold iter_may_b
  rw [hx, List.length_map]
  simp only [show ¬ ((e : Int) > 8) from by omega, show ¬ (x.Times < 1) from by omega, show ¬ (x.Times > 65535) from by omega, show ¬ ((bs.length : Int) > 65535) from by omega, decide_false, Bool.false_eq_true, if_false]
  rcases hB with ⟨rfl, h1, h6⟩ | ⟨hne, h0⟩
  · simp only [List.length_nil, show (((0 : Nat) : Int) == 0) = true from rfl, if_true, show ((x.Bytes.length : Int) ≥ 1) from by omega, show ((x.Bytes.length : Int) ≤ 255) from by omega, decide_true]
  · have hpos : 0 < bs.length := List.length_pos_iff.2 hne
    have : ((bs.length : Int) == 0) = false := by rw [beq_eq_false_iff_ne]; omega
    simp only [this, Bool.false_eq_true, if_false, h0, List.length_nil, show ¬ (((0 : Nat) : Int) > 0) from by omega, decide_false]
    rw [fold_loop1 (n := bs.length) (f := fun y : Int => iter_may_l30 self (e : Int) (bs.map Block.d) (bs.length : Int) y) (b := .inr ()) (fun i hi => ?_) ?_]
    · rfl
    · unfold iter_may_l30
      simp
    · unfold iter_may_l30
      rw [idx_d bs hi, wrap64 (n := (e : Int) + 1) (by omega) (by omega)]
      simp only [show ((i : Int) < (bs.length : Int)) from by omega, decide_true, if_true, Option.bind_some, ofD_d, hs _ (List.getElem_mem hi), Bool.not_true, Bool.false_eq_true, if_false]
      rw [wrapS (by omega)]

theorem clone_spec {s : List Int} (h : s.length ≤ 2 ^ 40) : slices_Clone_Lbyte s = some s := by
  unfold slices_Clone_Lbyte
  rw [grow_eq (by simp; omega) (by simp; omega)]; rfl

theorem spread_b (self : Block → Option (List Int × Bool)) (hmay : iter_May x = some true) (hsize : iter_Size 64 x = some ((rep x.Times.toNat (x.Bytes ++ bs.flatMap g)).length : Int))
    (hx : x.Blocks = bs.map Block.d) (hs : ∀ b ∈ bs, self b = some (g b, true)) (t0 : 0 ≤ x.Times) (t1 : x.Times ≤ 4) (h3 : bs.length ≤ 3) (hl : (x.Bytes ++ bs.flatMap g).length ≤ 16384) :
    iter_Spread_b self x = some (rep x.Times.toNat (x.Bytes ++ bs.flatMap g), true) := by
  have hmono : ∀ i, (x.Bytes ++ (bs.take i).flatMap g).length ≤ (x.Bytes ++ bs.flatMap g).length := fun i => by
    conv => rhs; rw [← List.take_append_drop i bs, List.flatMap_append]
    simp only [List.length_append]; omega
  have h5 : x.Times.toNat * (x.Bytes ++ bs.flatMap g).length ≤ 4 * 16384 := Nat.mul_le_mul (by omega) hl
  have hB : x.Bytes.length ≤ 16384 := by simp only [List.length_append] at hl; omega
  unfold iter_Spread_b
  rw [hmay, Option.bind_some, hsize]
  simp only [Bool.not_true, Bool.false_eq_true, if_false, Option.bind_some]
  simp only [show ¬ (((rep x.Times.toNat (x.Bytes ++ bs.flatMap g)).length : Int) > 65536) from by rw [rep_len]; omega, decide_false, Bool.false_eq_true, if_false]
  rw [clone_spec (by omega), Option.bind_some, hx, List.length_map]
  obtain ⟨s, h1, rfl⟩ := fold_loop (n := bs.length) (f := fun y : List Int × Int => iter_Spread_l16 self x y.1 (bs.map Block.d) (bs.length : Int) y.2)
    (fun i s => s = x.Bytes ++ (bs.take i).flatMap g) (by
      rintro s i hi rfl
      have h2 := hmono (i + 1)
      rw [take_flat hi] at h2
      simp only [List.length_append] at h2 hl
      simp only
      unfold iter_Spread_l16
      rw [idx_d bs hi]
      simp only [show ((i : Int) < (bs.length : Int)) from by omega, decide_true, if_true, Option.bind_some, ofD_d, hs _ (List.getElem_mem hi)]
      rw [grow_eq (by simp only [List.length_append]; omega) (by simp only [List.length_append]; omega), wrapS (by omega)]
      exact ⟨_, rfl, by rw [take_flat hi, List.append_assoc]⟩) (by
      rintro s rfl
      simp only
      unfold iter_Spread_l16
      simp) (s0 := x.Bytes) (by simp)
  rw [h1, Option.bind_some, List.take_length]
  have := repeat_spec (x := x.Bytes ++ bs.flatMap g) (t := x.Times.toNat) (by omega) (by omega) (by rw [Nat.mul_comm]; omega)
  rw [Int.toNat_of_nonneg t0] at this
  rw [this]; rfl

theorem put_b (self : Block → Option (List Int)) (hx : x.Blocks = bs.map Block.d) (hs : ∀ b ∈ bs, self b = some (g b)) (t0 : 0 ≤ x.Times) (t1 : x.Times ≤ 4) (hB : x.Bytes.length ≤ 6) (h3 : bs.length ≤ 3)
    (hg : ∀ b ∈ bs, (g b).length ≤ 2 ^ 20) : iter_Put_b self x = some (le x.Times 2 ++ le (bs.length : Int) 2 ++ (if bs = [] then enc (b2s x.Bytes) else bs.flatMap g)) := by
  unfold iter_Put_b
  rw [hx, List.length_map, wrapu16 (n := x.Times) (by omega) (by omega), wrapu16 (n := (bs.length : Int)) (by omega) (by omega), index_Two_spec t0 (by omega), index_Two_spec (by omega) (by omega)]
  simp only [Option.bind_some]
  rw [grow_eq (by simp only [le_length]; omega) (by simp only [le_length]; omega), Option.bind_some]
  by_cases h0 : bs = []
  · subst h0
    simp only [List.length_nil, show (((0 : Nat) : Int) == 0) = true from rfl, if_true]
    rw [name_spec _ (by rw [b2s_length]; omega), Option.bind_some, grow_eq (by simp only [List.length_append, le_length, enc_length, b2s_length]; omega) (by simp only [List.length_append, le_length, enc_length, b2s_length]; omega)]; rfl
  · have hpos : 0 < bs.length := List.length_pos_iff.2 h0
    have : ((bs.length : Int) == 0) = false := by rw [beq_eq_false_iff_ne]; omega
    simp only [this, Bool.false_eq_true, if_false, h0]
    generalize hp : le x.Times 2 ++ le (bs.length : Int) 2 = p
    have hpl : p.length = 4 := by rw [← hp]; simp [le_length]
    obtain ⟨s, h1, rfl⟩ := fold_loop (n := bs.length) (f := fun y : List Int × Int => iter_Put_l16 self y.1 (bs.map Block.d) (bs.length : Int) y.2)
      (fun i s => s = p ++ (bs.take i).flatMap g) (by
        rintro s i hi rfl
        have h4 := takes_len hg i
        have hgi := hg _ (List.getElem_mem hi)
        have h3' : bs.length * 2 ^ 20 ≤ 3 * 2 ^ 20 := Nat.mul_le_mul_right _ h3
        simp only
        unfold iter_Put_l16
        rw [idx_d bs hi]
        simp only [show ((i : Int) < (bs.length : Int)) from by omega, decide_true, if_true, Option.bind_some, ofD_d, hs _ (List.getElem_mem hi)]
        rw [grow_eq (by simp only [List.length_append]; omega) (by simp only [List.length_append]; omega), wrapS (by omega)]
        exact ⟨_, rfl, by rw [take_flat hi, List.append_assoc]⟩) (by
        rintro s rfl
        simp only
        unfold iter_Put_l16
        simp) (s0 := p) (by simp)
    rw [h1, List.take_length]; rfl

end

/-- so many bytes, so deep -/
def cap : Nat → Nat
  | 0 => 24
  | n + 1 => 12 * cap n
theorem cap_ge : ∀ n, 24 ≤ cap n
  | 0 => by simp [cap]
  | n + 1 => by have := cap_ge n; simp only [cap]; omega
theorem cap_le : ∀ n, n ≤ 3 → cap n ≤ 41472
  | 0, _ => by simp [cap]
  | 1, _ => by simp [cap]
  | 2, _ => by simp [cap]
  | 3, _ => by simp [cap]
  | n + 4, h => by omega

theorem choose2 {R : Block → List Int → List Int → Prop} {bs : List Block} (h : ∀ b ∈ bs, ∃ s p, R b s p) : ∃ g q : Block → List Int, ∀ b ∈ bs, R b (g b) (q b) := by
  classical
  refine ⟨fun b => if hb : ∃ s p, R b s p then hb.choose else [], fun b => if hb : ∃ s p, R b s p then hb.choose_spec.choose else [], fun b hb => ?_⟩
  simp only [dif_pos (h b hb)]
  exact (h b hb).choose_spec.choose_spec

/-! ### what is read -/
theorem name_end : index_Source_Name ⟨[], 2⟩ = some ([], ⟨[], 2⟩) := by
  unfold index_Source_Name
  rw [byte_end 2 (by omega), Option.bind_some]
  simp only [show IntKind.wrap .i64 0 = 0 from rfl]
  rw [take_ok _ (by omega) (by simp)]; rfl
theorem err_spec (s : Source) : index_Source_Err s = some s.e := by unfold index_Source_Err; rfl
theorem left_spec (s : Source) : index_Source_Left s = some (s.b.length : Int) := by unfold index_Source_Left; rfl

open Classical in
theorem take_leaf (self : Source → Int → Option (Block × Source)) {x : Block} (e : Int) (he : e ≤ 8) (hb : x.Blocks = []) (hu : ∀ c ∈ x.Bytes, wfI .u8 c) (t0 : 1 ≤ x.Times) (t1 : x.Times ≤ 4) (h6 : x.Bytes.length ≤ 6) (r : List Int) :
    iter_take_b self ⟨le x.Times 2 ++ le 0 2 ++ enc (b2s x.Bytes) ++ r, 0⟩ e = some (x, ⟨r, 0⟩) := by
  unfold iter_take_b
  rw [List.append_assoc, List.append_assoc, word_le (by omega) (by omega), Option.bind_some]
  simp only
  rw [word_le (by omega) (by omega), Option.bind_some]
  simp only [show ¬ (e > 8) from by omega, decide_false, Bool.false_eq_true, if_false, show IntKind.wrap .i64 0 = 0 from rfl]
  unfold iter_take_j12
  simp only [beq_self_eq_true, if_true]
  rw [enc_name _ (by rw [b2s_length]; omega), Option.bind_some, wrap64 (by omega) (by omega), s2b_b2s hu]
  obtain ⟨t, y, l⟩ := x
  simp only at hb
  subst hb
  rfl

theorem take_node (self : Source → Int → Option (Block × Source)) {x : Block} {bs : List Block} {p : Block → List Int} (e : Nat) (he : e ≤ 8) (hb : x.Blocks = bs.map Block.d) (hB : x.Bytes = []) (t0 : 1 ≤ x.Times) (t1 : x.Times ≤ 4)
    (h1 : 1 ≤ bs.length) (h3 : bs.length ≤ 3) (hs : ∀ b ∈ bs, ∀ r, self ⟨p b ++ r, 0⟩ ((e : Int) + 1) = some (b, ⟨r, 0⟩)) (r : List Int) :
    iter_take_b self ⟨le x.Times 2 ++ le (bs.length : Int) 2 ++ bs.flatMap p ++ r, 0⟩ (e : Int) = some (x, ⟨r, 0⟩) := by
  unfold iter_take_b
  rw [List.append_assoc, List.append_assoc, word_le (by omega) (by omega), Option.bind_some]
  simp only
  rw [word_le (by omega) (by omega), Option.bind_some]
  simp only [show ¬ ((e : Int) > 8) from by omega, decide_false, Bool.false_eq_true, if_false]
  rw [wrap64 (n := (bs.length : Int)) (by omega) (by omega), wrap64 (n := x.Times) (by omega) (by omega)]
  unfold iter_take_j12
  have : ((bs.length : Int) == 0) = false := by rw [beq_eq_false_iff_ne]; omega
  simp only [this, Bool.false_eq_true, if_false]
  obtain ⟨c, hc, hQ⟩ := loop_rule (f := fun y : Source × List D × Int => iter_take_l26 self y.1 y.2.1 0 x.Times (e : Int) (bs.length : Int) y.2.2)
    (fun y => ∃ i : Nat, i ≤ bs.length ∧ y = (⟨(bs.drop i).flatMap p ++ r, 0⟩, (bs.take i).map Block.d, (i : Int))) (fun y => bs.length - y.2.2.toNat) (fun c => c = (bs.map Block.d, ⟨r, 0⟩)) (by
      rintro y ⟨i, hi, rfl⟩
      simp only
      unfold iter_take_l26
      by_cases hlt : i < bs.length
      · left
        simp only [show ((i : Int) < (bs.length : Int)) from by omega, decide_true, if_true, err_spec, Option.bind_some, bne_self_eq_false, Bool.false_eq_true, if_false]
        rw [wrap64 (n := (e : Int) + 1) (by omega) (by omega), List.drop_eq_getElem_cons hlt, List.flatMap_cons, List.append_assoc, hs _ (List.getElem_mem hlt)]
        simp only [Option.bind_some]
        rw [grow_eq (by simp; omega) (by simp; omega), wrapS (by omega)]
        refine ⟨_, rfl, ⟨i + 1, by omega, ?_⟩, by simp only [Int.toNat_natCast]; omega⟩
        rw [List.take_succ_eq_append_getElem hlt, List.map_append]
        rfl
      · right
        have hie : i = bs.length := by omega
        subst hie
        simp only [Int.lt_irrefl, decide_false, Bool.false_eq_true, if_false]
        exact ⟨_, rfl, by simp⟩) (x := (⟨bs.flatMap p ++ r, 0⟩, [], 0)) ⟨0, by omega, by simp⟩
  rw [hc, hQ]
  obtain ⟨t, y, l⟩ := x
  simp only at hb hB
  subst hb hB
  rfl

/-- a byte is missing -/
theorem cut_leaf (self : Source → Int → Option (Block × Source)) {x : Block} (e : Int) (he : e ≤ 8) (t0 : 1 ≤ x.Times) (t1 : x.Times ≤ 4) (h1 : 1 ≤ x.Bytes.length) (h6 : x.Bytes.length ≤ 6) :
    ∃ y, iter_take_b self ⟨(le x.Times 2 ++ le 0 2 ++ enc (b2s x.Bytes)).dropLast, 0⟩ e = some (y, ⟨[], 2⟩) := by
  have hne : s2b (b2s x.Bytes) ≠ [] := by
    intro h; have := congrArg List.length h; rw [s2b_length, b2s_length, List.length_nil] at this; omega
  unfold iter_take_b
  rw [List.append_assoc, List.dropLast_append_of_ne_nil (by simp [enc]), List.dropLast_append_of_ne_nil (by simp [enc]), word_le (by omega) (by omega), Option.bind_some]
  simp only
  rw [word_le (by omega) (by omega), Option.bind_some]
  simp only [show ¬ (e > 8) from by omega, decide_false, Bool.false_eq_true, if_false, show IntKind.wrap .i64 0 = 0 from rfl]
  unfold iter_take_j12
  simp only [beq_self_eq_true, if_true]
  rw [enc, List.dropLast_cons_of_ne_nil hne, name_short _ _ (by omega) (by rw [b2s_length]; omega) (by rw [List.length_dropLast, s2b_length, b2s_length]; omega)]
  exact ⟨_, rfl⟩

theorem cut_node (self : Source → Int → Option (Block × Source)) {x : Block} {bs : List Block} {p : Block → List Int} (e : Nat) (he : e ≤ 8) (t0 : 1 ≤ x.Times) (t1 : x.Times ≤ 4)
    (h1 : 1 ≤ bs.length) (h3 : bs.length ≤ 3) (hs : ∀ b ∈ bs, ∀ r, self ⟨p b ++ r, 0⟩ ((e : Int) + 1) = some (b, ⟨r, 0⟩)) (hp : ∀ b ∈ bs, p b ≠ []) (hc : ∀ b ∈ bs, ∃ y, self ⟨(p b).dropLast, 0⟩ ((e : Int) + 1) = some (y, ⟨[], 2⟩)) :
    ∃ y, iter_take_b self ⟨(le x.Times 2 ++ le (bs.length : Int) 2 ++ bs.flatMap p).dropLast, 0⟩ (e : Int) = some (y, ⟨[], 2⟩) := by
  obtain ⟨cs, c, rfl⟩ : ∃ cs c, bs = cs ++ [c] := ⟨bs.dropLast, bs.getLast (by rintro rfl; simp at h1), (List.dropLast_concat_getLast _).symm⟩
  have hpc := hp c (by simp)
  unfold iter_take_b
  rw [List.flatMap_append, List.flatMap_singleton, List.append_assoc, ← List.append_assoc _ _ (p c), ← List.append_assoc, List.dropLast_append_of_ne_nil hpc, List.append_assoc, List.append_assoc, word_le (by omega) (by omega), Option.bind_some]
  simp only
  rw [word_le (by omega) (by omega), Option.bind_some]
  simp only [show ¬ ((e : Int) > 8) from by omega, decide_false, Bool.false_eq_true, if_false]
  rw [wrap64 (n := ((cs ++ [c]).length : Int)) (by omega) (by omega), wrap64 (n := x.Times) (by omega) (by omega)]
  unfold iter_take_j12
  have : (((cs ++ [c]).length : Int) == 0) = false := by rw [beq_eq_false_iff_ne, List.length_append, List.length_singleton]; omega
  simp only [this, Bool.false_eq_true, if_false]
  have hl : (cs ++ [c]).length = cs.length + 1 := by simp
  rw [hl] at h1 h3 ⊢
  obtain ⟨q, hq, hQ⟩ := loop_rule (f := fun y : Source × List D × Int => iter_take_l26 self y.1 y.2.1 0 x.Times (e : Int) ((cs.length + 1 : Nat) : Int) y.2.2)
    (fun y => (∃ i : Nat, i ≤ cs.length ∧ y.1 = ⟨(cs.drop i).flatMap p ++ (p c).dropLast, 0⟩ ∧ y.2.1.length ≤ 3 ∧ y.2.1.length ≤ i ∧ y.2.2 = (i : Int)) ∨ (y.1 = ⟨[], 2⟩ ∧ y.2.2 = ((cs.length + 1 : Nat) : Int))) (fun y => cs.length + 1 - y.2.2.toNat) (fun c => c.2 = ⟨[], 2⟩) (by
      rintro ⟨y1, y2, y3⟩ (⟨i, hi, hy1, hy2, hy4, hy3⟩ | ⟨hy1, hy3⟩)
      · simp only at hy1 hy2 hy3 hy4 ⊢
        subst hy1 hy3
        unfold iter_take_l26
        left
        simp only [show ((i : Int) < ((cs.length + 1 : Nat) : Int)) from by omega, decide_true, if_true, err_spec, Option.bind_some, bne_self_eq_false, Bool.false_eq_true, if_false]
        rw [wrap64 (n := (e : Int) + 1) (by omega) (by omega), wrapS (by omega)]
        by_cases hlt : i < cs.length
        · rw [List.drop_eq_getElem_cons hlt, List.flatMap_cons, List.append_assoc, hs _ (by simp [List.getElem_mem hlt])]
          simp only [Option.bind_some]
          rw [grow_eq (by simp; omega) (by simp; omega)]
          exact ⟨_, rfl, .inl ⟨i + 1, by omega, rfl, by simp; omega, by simp; omega, rfl⟩, by simp only [Int.toNat_natCast]; omega⟩
        · have hie : i = cs.length := by omega
          subst hie
          obtain ⟨y, hy⟩ := hc c (by simp)
          simp only [List.drop_length, List.flatMap_nil, List.nil_append]
          rw [hy, Option.bind_some, grow_eq (by simp; omega) (by simp; omega)]
          exact ⟨_, rfl, .inr ⟨rfl, rfl⟩, by simp only [Int.toNat_natCast]; omega⟩
      · simp only at hy1 hy3 ⊢
        subst hy1 hy3
        unfold iter_take_l26
        right
        simp only [Int.lt_irrefl, decide_false, Bool.false_eq_true, if_false]
        exact ⟨_, rfl, rfl⟩) (x := (⟨cs.flatMap p ++ (p c).dropLast, 0⟩, [], 0)) (.inl ⟨0, by omega, by simp, by simp, by simp, rfl⟩)
  rw [hq]
  obtain ⟨q1, q2⟩ := q
  simp only at hQ
  subst hQ
  exact ⟨_, rfl⟩

/-! ### a record's data -/
noncomputable abbrev gl (sg of : Int) := fun y : Source × List Int => iter_Get_l8 y.1 y.2 0 0 sg of
theorem gl_end {sg of : Int} (acc : List Int) (e : Int) : loopO (gl sg of) (⟨[], e⟩, acc) = some (acc, ⟨[], e⟩) := by
  rw [loopO_eq]
  have : gl sg of (⟨[], e⟩, acc) = some (.out (acc, ⟨[], e⟩)) := by
    unfold gl iter_Get_l8
    simp [left_spec]
  rw [this]; rfl
theorem gl_err {sg of : Int} (acc b : List Int) (hb : b ≠ []) {y : Block} (h : iter_take 64 ⟨b, 0⟩ 1 = some (y, ⟨[], 2⟩)) : loopO (gl sg of) (⟨b, 0⟩, acc) = some (acc, ⟨[], 2⟩) := by
  rw [loopO_eq]
  have : gl sg of (⟨b, 0⟩, acc) = some (.out (acc, ⟨[], 2⟩)) := by
    have := List.length_pos_iff.2 hb
    unfold gl iter_Get_l8
    simp only [left_spec, Option.bind_some, show ((b.length : Int) > 0) from by omega, decide_true, if_true, h, err_spec]
    simp
  rw [this]; rfl
theorem take_bad (b : List Int) (hb : b.length < 2) (k : Nat) : ∃ y, iter_take (k + 1) ⟨b, 0⟩ 1 = some (y, ⟨[], 2⟩) := by
  show ∃ y, iter_take_b (iter_take k) ⟨b, 0⟩ 1 = some (y, ⟨[], 2⟩)
  unfold iter_take_b
  rw [word_short b hb, Option.bind_some]
  simp only
  rw [word_end, Option.bind_some]
  simp only [show ¬ ((1 : Int) > 8) from by omega, decide_false, Bool.false_eq_true, if_false, show IntKind.wrap .i64 0 = 0 from rfl]
  unfold iter_take_j12
  simp only [beq_self_eq_true, if_true, name_end, Option.bind_some]
  exact ⟨_, rfl⟩
theorem wf_tail {a b : List Int} (h : ∀ c ∈ a ++ b, wfI .u8 c) : ∀ c ∈ b, wfI .u8 c := fun c hc => h c (by simp [hc])

/-- the beginning: a segment, and an offset -/
theorem get_head {sg of : Int} (s0 : 0 ≤ sg) (s1 : sg ≤ 32767) (o0 : 0 ≤ of) (o1 : of ≤ 65535) (r : List Int) (hr : ∀ c ∈ r, wfI .u8 c) (hl : r.length ≤ 2 ^ 30) {acc b : List Int} {e : Int} (h : loopO (gl sg of) (⟨r, 0⟩, []) = some (acc, ⟨b, e⟩)) (he : e ≠ 0 ∨ b = []) :
    iter_Get (ix sg ++ (le of 2 ++ r)) = some (if e ≠ 0 then (⟨0, 0, [], []⟩, e) else if sg < 1 ∨ acc = [] then (⟨0, 0, [], []⟩, 3) else (⟨sg, of, acc, []⟩, 0)) := by
  have := ix_len sg
  have hw : ∀ c ∈ le of 2 ++ r, wfI .u8 c := fun c hc => by
    rcases List.mem_append.1 hc with hc | hc
    · exact le_wf of 2 c hc
    · exact hr c hc
  unfold iter_Get
  rw [from_spec _ (by simp only [List.length_append, le_length]; omega), Option.bind_some, index_ix s0 s1 _ hw, Option.bind_some]
  simp only
  rw [word_le o0 o1, Option.bind_some]
  simp only
  have h' : loopO (fun x : Source × List Int => iter_Get_l8 x.1 x.2 0 0 sg of) (⟨r, 0⟩, []) = some (acc, ⟨b, e⟩) := h
  rw [h', Option.bind_some]
  simp only [err_spec, Option.bind_some]
  by_cases h0 : e = 0
  · subst h0
    have hb : b = [] := by rcases he with h | h; exact absurd rfl h; exact h
    subst hb
    simp only [beq_self_eq_true, if_true]
    by_cases h1 : sg < 1
    · simp only [h1, decide_true, if_true, true_or]
      simp [index_Source_Wrong, end_spec]
    · simp only [h1, decide_false, Bool.false_eq_true, if_false, false_or]
      by_cases h2 : acc = []
      · subst h2
        simp [index_Source_Wrong, end_spec]
      · have : ((acc.length : Int) == 0) = false := by
          rw [beq_eq_false_iff_ne]
          have := List.length_pos_iff.2 h2; omega
        simp only [this, Bool.false_eq_true, if_false, end_spec, true_or, if_true, Option.bind_some, bne_self_eq_false, h2, ne_eq, not_true_eq_false]
  · have h1 : (e == 0) = false := by rw [beq_eq_false_iff_ne]; exact h0
    have h2 : (e != 0) = true := by rw [bne, h1]; rfl
    simp only [h1, Bool.false_eq_true, if_false, end_spec, h0, not_false_eq_true, ne_eq, or_true, if_true, Option.bind_some, h2]

theorem fold_loop2 {α β : Type} {n : Nat} {f : α × β × Int → Option (Lp (α × β × Int) (α × β))} (inv : Nat → α → β → Prop)
    (h : ∀ a b (i : Nat), i < n → inv i a b → ∃ a' b', f (a, b, (i : Int)) = some (.next (a', b', ((i + 1 : Nat) : Int))) ∧ inv (i + 1) a' b')
    (he : ∀ a b, inv n a b → f (a, b, (n : Int)) = some (.out (a, b))) {a0 : α} {b0 : β} (h0 : inv 0 a0 b0) : ∃ a b, loopO f (a0, b0, 0) = some (a, b) ∧ inv n a b := by
  obtain ⟨⟨a, b⟩, h1, h2⟩ := loop_rule (f := f) (fun x => ∃ i : Nat, i ≤ n ∧ x.2.2 = (i : Int) ∧ inv i x.1 x.2.1) (fun x => n - x.2.2.toNat) (fun s => inv n s.1 s.2) (by
    rintro ⟨a, b, j⟩ ⟨i, hi, hj, hs⟩
    simp only at hj hs ⊢
    subst hj
    rcases Nat.lt_or_ge i n with hlt | hge
    · obtain ⟨a', b', h1, h2⟩ := h a b i hlt hs
      exact .inl ⟨_, h1, ⟨i + 1, by omega, rfl, h2⟩, by simp only; omega⟩
    · obtain rfl : i = n := by omega
      exact .inr ⟨_, he a b hs, hs⟩) (x := (a0, b0, 0)) ⟨0, by omega, rfl, h0⟩
  exact ⟨a, b, h1, h2⟩
end Go.Es.Itm
