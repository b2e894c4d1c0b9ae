/- What is read of a record's bytes: in plain Lean. No condition. -/
import Derived.Test.YtikbjljifgadmaaPmdP
set_option linter.unusedVariables false
set_option linter.unusedSimpArgs false
set_option maxHeartbeats 1000000
set_option maxRecDepth 100000
namespace Go.Es.Pmd
theorem cut_min {α : Type} (l : List α) (k : Nat) : cutL l 0 (mnI (l.length : Int) (k : Int)) = some (l.take k) := by
  rw [mnI_eq, cutL_eq (by omega) (by omega) (by omega)]
  have : (min (l.length : Int) (k : Int)).toNat = min l.length k := by omega
  simp only [Int.toNat_zero, List.drop_zero, Nat.sub_zero, this]
  congr 1
  by_cases h : k ≤ l.length
  · rw [Nat.min_eq_right h]
  · rw [Nat.min_eq_left (by omega), List.take_of_length_le (by omega), List.take_of_length_le (by omega)]
theorem cut_to {α : Type} (l : List α) {k : Nat} (h : k ≤ l.length) : cutL l 0 (k : Int) = some (l.take k) := by
  rw [cutL_eq (by omega) (by omega) (by omega)]; simp
theorem b2s_s2b (s : List UInt8) : b2s (s2b s) = s := by
  simp only [b2s, s2b, List.map_map]
  conv => rhs; rw [← List.map_id s]
  apply List.map_congr_left
  intro c _
  simp
theorem s2b_b2s {l : List Int} (h : ∀ c ∈ l, wfI .u8 c) : s2b (b2s l) = l := by
  simp only [b2s, s2b, List.map_map]
  conv => rhs; rw [← List.map_id l]
  apply List.map_congr_left
  intro c hc
  obtain ⟨h0, h1⟩ := wfI_u8.1 (h c hc)
  simp only [Function.comp, id, UInt8.toNat_ofNat']
  omega
theorem b2s_append (a b : List Int) : b2s (a ++ b) = b2s a ++ b2s b := by simp [b2s]
theorem b2s_cons (a : Int) (b : List Int) : b2s (a :: b) = UInt8.ofNat a.toNat :: b2s b := rfl
theorem s2b_append (a b : List UInt8) : s2b (a ++ b) = s2b a ++ s2b b := by simp [s2b]
theorem s2b_length (s : List UInt8) : (s2b s).length = s.length := by simp [s2b]
theorem b2s_length (s : List Int) : (b2s s).length = s.length := by simp [b2s]
theorem s2b_take (s : List UInt8) (k : Nat) : s2b (s.take k) = (s2b s).take k := by simp [s2b, List.map_take]
theorem s2b_wf (s : List UInt8) : ∀ c ∈ s2b s, wfI .u8 c := by
  intro c hc
  simp only [s2b, List.mem_map] at hc
  obtain ⟨x, _, rfl⟩ := hc
  have := x.toNat_lt
  exact wfI_u8.2 ⟨by omega, by omega⟩

/-! ### sources -/
theorem from_spec (b : List Int) (h : b.length ≤ 2 ^ 40) : index_From b = some ⟨b, 0⟩ := by
  unfold index_From
  rw [grow_eq (by simp; omega) (by simp; omega)]; rfl
theorem take_ok (s : Source) {n : Int} (h0 : 0 ≤ n) (h1 : n ≤ (s.b.length : Int)) : index_Source_Take s n = some (s.b.take n.toNat, ⟨s.b.drop n.toNat, s.e⟩) := by
  unfold index_Source_Take
  have e1 : ¬ n < 0 := by omega
  have e2 : ¬ n > (s.b.length : Int) := by omega
  simp only [e1, e2, decide_false, Bool.false_eq_true, if_false]
  rw [cut3_eq (by omega) h0 (by omega) h1, cutL_eq h0 h1 (by omega)]
  simp only [Option.bind_some, Int.toNat_zero, List.drop_zero, Nat.sub_zero, Int.toNat_natCast]
  have hd : List.take (s.b.length - n.toNat) (List.drop n.toNat s.b) = List.drop n.toNat s.b := List.take_of_length_le (by rw [List.length_drop]; omega)
  rw [hd]
theorem take_short (b : List Int) {n : Int} (h : n < 0 ∨ (b.length : Int) < n) : index_Source_Take ⟨b, 0⟩ n = some ([], ⟨[], 2⟩) := by
  unfold index_Source_Take
  rcases h with h | h
  · simp [h, index_Source_Wrong]
  · by_cases h0 : n < 0
    · simp [h0, index_Source_Wrong]
    · simp [h0, h, index_Source_Wrong]
theorem byte_cons (c : Int) (r : List Int) (e : Int) : index_Source_Byte ⟨c :: r, e⟩ = some (c, ⟨r, e⟩) := by
  unfold index_Source_Byte
  rw [take_ok _ (by omega) (by simp only [List.length_cons]; omega)]
  simp [idx]
theorem byte_nil : index_Source_Byte ⟨[], 0⟩ = some (0, ⟨[], 2⟩) := by
  unfold index_Source_Byte
  rw [take_short _ (by simp)]
  simp
theorem byte_end (e : Int) (he : e ≠ 0) : index_Source_Byte ⟨[], e⟩ = some (0, ⟨[], e⟩) := by
  unfold index_Source_Byte index_Source_Take
  simp [index_Source_Wrong, he]
theorem name_ok (c : Int) (r : List Int) (e : Int) (h0 : 0 ≤ c) (h1 : c ≤ 255) (h2 : c.toNat ≤ r.length) : index_Source_Name ⟨c :: r, e⟩ = some (b2s (r.take c.toNat), ⟨r.drop c.toNat, e⟩) := by
  unfold index_Source_Name
  rw [byte_cons, Option.bind_some]
  simp only [wrap64 (n := c) (by omega) (by omega)]
  rw [take_ok _ h0 (by simp only; omega)]; rfl
theorem name_short (c : Int) (r : List Int) (h0 : 0 ≤ c) (h1 : c ≤ 255) (h2 : r.length < c.toNat) : index_Source_Name ⟨c :: r, 0⟩ = some ([], ⟨[], 2⟩) := by
  unfold index_Source_Name
  rw [byte_cons, Option.bind_some]
  simp only [wrap64 (n := c) (by omega) (by omega)]
  rw [take_short _ (by omega)]; rfl
theorem name_nil : index_Source_Name ⟨[], 0⟩ = some ([], ⟨[], 2⟩) := by
  unfold index_Source_Name
  rw [byte_nil, Option.bind_some]
  simp only [show IntKind.wrap .i64 0 = 0 from rfl]
  rw [take_ok _ (by omega) (by simp)]; rfl
/-! ### names -/
/-- a name's bytes -/
def enc (s : List UInt8) : List Int := (s.length : Int) :: s2b s
theorem enc_length (s : List UInt8) : (enc s).length = s.length + 1 := by simp [enc, s2b]

theorem name_spec (s : List UInt8) (h : s.length ≤ 255) : index_Name s = some (enc s) := by
  unfold index_Name
  rw [show (255 : Int) = ((255 : Nat) : Int) from rfl, cut_min, List.take_of_length_le h, Option.bind_some, grow_eq (by simp [s2b]; omega) (by simp [s2b]; omega)]
  simp only [Option.bind_some, enc, wrapu8 (n := (s.length : Int)) (by omega) (by omega)]; rfl
theorem ref_spec (s : List UInt8) (h : s.length ≤ 255) : hansomref18_Name s = some (b2s (enc s)) := by
  unfold hansomref18_Name
  have : ¬ ((s.length : Int) > 255) := by omega
  simp only [this, decide_false, Bool.false_eq_true, if_false, wrapu8 (n := (s.length : Int)) (by omega) (by omega)]
  rw [catS_eq (by simp [b2s]; omega)]
  simp only [Option.bind_some, enc, b2s_cons, b2s_s2b]; rfl
theorem enc_name (s : List UInt8) (h : s.length ≤ 255) (r : List Int) : index_Source_Name ⟨enc s ++ r, 0⟩ = some (s, ⟨r, 0⟩) := by
  have hl : (s.length : Int).toNat = (s2b s).length := by rw [s2b_length]; omega
  have hl2 : (s.length : Int).toNat ≤ (s2b s ++ r).length := by rw [hl, List.length_append]; omega
  rw [enc, List.cons_append, name_ok _ _ _ (by omega) (by omega) hl2, hl]
  simp [b2s_s2b]


/-! ### bytes -/
theorem wrap_u8' (n : Int) : IntKind.wrap .u8 n = n % 256 := by simp [IntKind.wrap, IntKind.bits, IntKind.signed]
theorem or128 {x : Int} (h0 : 0 ≤ x) (h1 : x < 128) : bitsOp .or .u8 x 128 = x + 128 := by
  have : ∀ n : Fin 128, bitsOp .or .u8 (n.val : Int) 128 = (n.val : Int) + 128 := by decide
  have := this ⟨x.toNat, by omega⟩
  simp only at this
  rw [Int.toNat_of_nonneg h0] at this
  exact this
/-- the low bytes of a number -/
def le : Int → Nat → List Int
  | _, 0 => []
  | n, k + 1 => n % 256 :: le (n / 256) k
theorem le_length (n : Int) (k : Nat) : (le n k).length = k := by
  induction k generalizing n with
  | zero => rfl
  | succ k ih => simp [le, ih]
/-- an index's bytes -/
def ix (n : Int) : List Int := if n < 0 ∨ 32767 < n then [0] else if n < 128 then [n] else [n / 256 + 128, n % 256]
theorem index_Put_spec (n : Int) : index_Put n = some (ix n) := by
  unfold index_Put ix
  by_cases h0 : n < 0
  · simp [h0]
  · by_cases h1 : n > 32767
    · simp [h0, h1]
    · by_cases h2 : n < 128
      · simp [h0, h1, h2, wrapu8 (n := n) (by omega) (by omega)]
      · simp only [h0, h1, h2, decide_false, Bool.false_eq_true, if_false, show ¬ (n < 0 ∨ 32767 < n) from by omega]
        have e : shrI .i64 n 8 = n / 256 := shr_eq (j := 8) (by decide)
        rw [e, wrapu8 (n := n / 256) (by omega) (by omega), or128 (by omega) (by omega), wrap_u8']; simp only [or_self, if_false]
/-! ### words and indexes that are read -/
theorem or_i64 {x y : Int} (j : Nat) (a : Nat) (hx : x = ((2 ^ j * a : Nat) : Int)) (hb : 2 ^ j * a + 2 ^ j ≤ 2 ^ 62) (h0 : 0 ≤ y) (h1 : y < (2 ^ j : Nat)) : bitsOp .or .i64 x y = x + y := by
  have e : bitsOp .or .i64 x y = IntKind.wrap .i64 (((BitVec.ofInt 64 x ||| BitVec.ofInt 64 y).toNat : Nat) : Int) := rfl
  have e1 : (BitVec.ofInt 64 x).toNat = 2 ^ j * a := by rw [BitVec.toNat_ofInt]; omega
  have e2 : (BitVec.ofInt 64 y).toNat = y.toNat := by rw [BitVec.toNat_ofInt]; omega
  have h2 : y.toNat < 2 ^ j := by omega
  rw [e, BitVec.toNat_or, e1, e2, ← Nat.two_pow_add_eq_or_of_lt h2, wrap64 (by omega) (by omega)]
  omega
theorem and127 (x : Int) : bitsOp .and .i64 x 127 = x % 128 := and_mask x 7 (by omega)
theorem or_hi {x y : Int} (hx0 : 128 ≤ x) (hx : x ≤ 255) (h0 : 0 ≤ y) (h1 : y ≤ 255) : bitsOp .or .i64 (shlI .i64 (bitsOp .and .i64 x 127) 8) y = (x - 128) * 256 + y := by
  have e : shlI .i64 (bitsOp .and .i64 x 127) 8 = (x - 128) * 256 := by
    rw [and127, show x % 128 = x - 128 by omega]
    show IntKind.wrap .i64 ((x - 128) * 256) = _
    exact wrap64 (by omega) (by omega)
  rw [e, or_i64 8 (x - 128).toNat (by omega) (by omega) h0 (by omega)]
theorem index_one (c : Int) (r : List Int) (e : Int) (h0 : 0 ≤ c) (h1 : c < 128) : index_Source_Index ⟨c :: r, e⟩ = some (c, ⟨r, e⟩) := by
  unfold index_Source_Index
  rw [byte_cons, Option.bind_some]
  simp only [wrap64 (n := c) (by omega) (by omega), h1, decide_true, if_true]
theorem index_two (c d : Int) (r : List Int) (h0 : 128 ≤ c) (h1 : c ≤ 255) (h2 : 0 ≤ d) (h3 : d ≤ 255) : index_Source_Index ⟨c :: d :: r, 0⟩ = some ((c - 128) * 256 + d, ⟨r, 0⟩) := by
  unfold index_Source_Index
  rw [byte_cons, Option.bind_some]
  simp only [wrap64 (n := c) (by omega) (by omega), show ¬ c < 128 by omega, decide_false, Bool.false_eq_true, if_false]
  rw [byte_cons, Option.bind_some]
  simp only [index_Source_Err, Option.bind_some, wrap64 (n := d) (by omega) (by omega), or_hi h0 h1 h2 h3]
  rfl
theorem index_cut (c : Int) (h0 : 128 ≤ c) (h1 : c ≤ 255) : index_Source_Index ⟨[c], 0⟩ = some (0, ⟨[], 2⟩) := by
  unfold index_Source_Index
  rw [byte_cons, Option.bind_some]
  simp only [wrap64 (n := c) (by omega) (by omega), show ¬ c < 128 by omega, decide_false, Bool.false_eq_true, if_false]
  rw [byte_nil]; rfl
theorem index_nil : index_Source_Index ⟨[], 0⟩ = some (0, ⟨[], 2⟩) := by
  unfold index_Source_Index
  rw [byte_nil]; rfl
theorem index_end : index_Source_Index ⟨[], 2⟩ = some (0, ⟨[], 2⟩) := by
  unfold index_Source_Index
  rw [byte_end 2 (by decide)]; rfl
/-- what is read of any bytes -/
def rdIx : List Int → Option (Int × List Int)
  | [] => none
  | c :: r => if c < 128 then some (c, r) else match r with | [] => none | d :: r => some ((c - 128) * 256 + d, r)
theorem index_any (b : List Int) (h : ∀ c ∈ b, wfI .u8 c) : index_Source_Index ⟨b, 0⟩ = some (match rdIx b with | some (v, r) => (v, ⟨r, 0⟩) | none => (0, ⟨[], 2⟩)) := by
  match b, h with
  | [], _ => simp [rdIx, index_nil]
  | c :: r, h =>
    obtain ⟨c0, c1⟩ := wfI_u8.1 (h c (by simp))
    by_cases hc : c < 128
    · simp [rdIx, hc, index_one c r 0 c0 hc]
    · match r, h with
      | [], _ => simp [rdIx, hc, index_cut c (by omega) c1]
      | d :: r, h =>
        obtain ⟨d0, d1⟩ := wfI_u8.1 (h d (by simp))
        simp [rdIx, hc, index_two c d r (by omega) c1 d0 d1]
theorem rdIx_len {b : List Int} {v : Int} {r : List Int} (h : rdIx b = some (v, r)) : r.length + 1 ≤ b.length ∧ ∀ c ∈ r, c ∈ b := by
  cases b with
  | nil => simp [rdIx] at h
  | cons c t =>
    by_cases hc : c < 128
    · simp only [rdIx, hc, if_true, Option.some.injEq, Prod.mk.injEq] at h
      obtain ⟨rfl, rfl⟩ := h
      exact ⟨by simp, fun c hc => by simp [hc]⟩
    · cases t with
      | nil => simp [rdIx, hc] at h
      | cons d t =>
        simp only [rdIx, hc, if_false, Option.some.injEq, Prod.mk.injEq] at h
        obtain ⟨rfl, rfl⟩ := h
        exact ⟨by simp, fun c hc => by simp [hc]⟩
theorem rdIx_lo {b : List Int} {v : Int} {r : List Int} (hb : ∀ c ∈ b, wfI .u8 c) (h : rdIx b = some (v, r)) : 0 ≤ v ∧ v ≤ 32767 := by
  cases b with
  | nil => simp [rdIx] at h
  | cons c t =>
    obtain ⟨c0, c1⟩ := wfI_u8.1 (hb c (by simp))
    by_cases hc : c < 128
    · simp only [rdIx, hc, if_true, Option.some.injEq, Prod.mk.injEq] at h
      obtain ⟨rfl, rfl⟩ := h
      omega
    · cases t with
      | nil => simp [rdIx, hc] at h
      | cons d t =>
        obtain ⟨d0, d1⟩ := wfI_u8.1 (hb d (by simp))
        simp only [rdIx, hc, if_false, Option.some.injEq, Prod.mk.injEq] at h
        obtain ⟨rfl, rfl⟩ := h
        omega
theorem rdIx_ix {n : Int} (h0 : 0 ≤ n) (h1 : n ≤ 32767) (r : List Int) : rdIx (ix n ++ r) = some (n, r) := by
  unfold ix
  rw [if_neg (by omega)]
  by_cases h : n < 128
  · simp [h, rdIx]
  · have : ¬ (n / 256 + 128 < 128) := by omega
    simp only [h, if_false, List.cons_append, List.nil_append, rdIx, this]
    simp only [Option.some.injEq, Prod.mk.injEq, and_true]; omega
theorem ix_wf (n : Int) : ∀ c ∈ ix n, wfI .u8 c := by
  intro c hc
  unfold ix at hc
  split at hc
  · simp only [List.mem_singleton] at hc; subst hc; exact wfI_u8.2 ⟨by omega, by omega⟩
  · split at hc
    · simp only [List.mem_singleton] at hc; subst hc; exact wfI_u8.2 ⟨by omega, by omega⟩
    · simp only [List.mem_cons, List.not_mem_nil, or_false] at hc
      rcases hc with rfl | rfl
      · exact wfI_u8.2 ⟨by omega, by omega⟩
      · exact wfI_u8.2 ⟨by omega, by omega⟩
theorem ix_len (n : Int) : 1 ≤ (ix n).length ∧ (ix n).length ≤ 2 := by
  unfold ix; split
  · simp
  · split <;> simp
theorem le_wf (n : Int) (k : Nat) : ∀ c ∈ le n k, wfI .u8 c := by
  induction k generalizing n with
  | zero => intro c hc; simp [le] at hc
  | succ k ih =>
    intro c hc
    simp only [le, List.mem_cons] at hc
    rcases hc with rfl | hc
    · exact wfI_u8.2 ⟨by omega, by omega⟩
    · exact ih _ c hc
theorem index_ix {n : Int} (h0 : 0 ≤ n) (h1 : n ≤ 32767) (r : List Int) (hr : ∀ c ∈ r, wfI .u8 c) : index_Source_Index ⟨ix n ++ r, 0⟩ = some (n, ⟨r, 0⟩) := by
  rw [index_any _ (fun c hc => by rcases List.mem_append.1 hc with hc | hc; exact ix_wf n c hc; exact hr c hc), rdIx_ix h0 h1]
theorem or_u16 {x y : Int} (j : Nat) (a : Nat) (hx : x = ((2 ^ j * a : Nat) : Int)) (hb : 2 ^ j * a + 2 ^ j ≤ 2 ^ 16) (h0 : 0 ≤ y) (h1 : y < (2 ^ j : Nat)) : bitsOp .or .u16 y x = y + x := by
  have e : bitsOp .or .u16 y x = IntKind.wrap .u16 (((BitVec.ofInt 16 y ||| BitVec.ofInt 16 x).toNat : Nat) : Int) := rfl
  have e1 : (BitVec.ofInt 16 x).toNat = 2 ^ j * a := by rw [BitVec.toNat_ofInt]; omega
  have e2 : (BitVec.ofInt 16 y).toNat = y.toNat := by rw [BitVec.toNat_ofInt]; omega
  have h2 : y.toNat < 2 ^ j := by omega
  rw [e, BitVec.toNat_or, e1, e2, Nat.or_comm, ← Nat.two_pow_add_eq_or_of_lt h2, wrapu16 (by omega) (by omega)]
  omega
theorem bits_Word_spec {l h : Int} (l0 : 0 ≤ l) (l1 : l ≤ 255) (h0 : 0 ≤ h) (h1 : h ≤ 255) : bits_Word l h = some (l + h * 256) := by
  unfold bits_Word
  have e : shlI .u16 (IntKind.wrap .u16 h) 8 = h * 256 := by
    rw [wrapu16 (by omega) (by omega)]
    show IntKind.wrap .u16 (h * 256) = _
    exact wrapu16 (by omega) (by omega)
  rw [e, wrapu16 (n := l) (by omega) (by omega), or_u16 8 h.toNat (by omega) (by omega) l0 (by omega)]
theorem word_cons (c d : Int) (r : List Int) (e : Int) (c0 : wfI .u8 c) (d0 : wfI .u8 d) : index_Source_Word ⟨c :: d :: r, e⟩ = some (c + d * 256, ⟨r, e⟩) := by
  obtain ⟨c0, c1⟩ := wfI_u8.1 c0
  obtain ⟨d0, d1⟩ := wfI_u8.1 d0
  unfold index_Source_Word
  rw [take_ok _ (by omega) (by simp only [List.length_cons]; omega)]
  simp [idx, bits_Word_spec c0 c1 d0 d1]
theorem word_short (b : List Int) (h : b.length < 2) : index_Source_Word ⟨b, 0⟩ = some (0, ⟨[], 2⟩) := by
  unfold index_Source_Word
  rw [take_short _ (by omega)]
  simp
theorem word_end : index_Source_Word ⟨[], 2⟩ = some (0, ⟨[], 2⟩) := by
  unfold index_Source_Word index_Source_Take
  simp [index_Source_Wrong]
theorem word_le {w : Int} (h0 : 0 ≤ w) (h1 : w ≤ 65535) (r : List Int) : index_Source_Word ⟨le w 2 ++ r, 0⟩ = some (w, ⟨r, 0⟩) := by
  have := word_cons (w % 256) (w / 256 % 256) r 0 (le_wf w 2 _ (by simp [le])) (le_wf w 2 _ (by simp [le]))
  simp only [le, List.cons_append, List.nil_append, this, Option.some.injEq, Prod.mk.injEq, and_true]
  omega
def rdW : List Int → Option (Int × List Int)
  | c :: d :: r => some (c + d * 256, r)
  | _ => none
theorem word_any (b : List Int) (h : ∀ c ∈ b, wfI .u8 c) : index_Source_Word ⟨b, 0⟩ = some (match rdW b with | some (v, r) => (v, ⟨r, 0⟩) | none => (0, ⟨[], 2⟩)) := by
  match b, h with
  | [], _ => simp [rdW, word_short]
  | [c], _ => simp [rdW, word_short]
  | c :: d :: r, h => simp [rdW, word_cons c d r 0 (h c (by simp)) (h d (by simp))]
theorem rdW_len {b : List Int} {v : Int} {r : List Int} (h : rdW b = some (v, r)) : r.length + 2 = b.length ∧ ∀ c ∈ r, c ∈ b := by
  match b, h with
  | c :: d :: t, h => cases h; exact ⟨by simp, fun c hc => by simp [hc]⟩
theorem rdW_lo {b : List Int} {v : Int} {r : List Int} (hb : ∀ c ∈ b, wfI .u8 c) (h : rdW b = some (v, r)) : 0 ≤ v ∧ v ≤ 65535 := by
  match b, hb, h with
  | c :: d :: t, hb, h =>
    obtain ⟨c0, c1⟩ := wfI_u8.1 (hb c (by simp))
    obtain ⟨d0, d1⟩ := wfI_u8.1 (hb d (by simp))
    cases h; omega
theorem index_Two_spec {w : Int} (h0 : 0 ≤ w) (h1 : w ≤ 65535) : index_Two w = some (le w 2) := by
  unfold index_Two bits_Low bits_High
  have e : shrI .u16 w 8 = w / 256 := shr_eq (j := 8) (by decide)
  simp only [Option.bind_some, e, wrap_u8', le]
/-! ### publics -/
theorem name_any (s : List UInt8) (h : s.length ≤ 255) : index_Name s = some (enc s) := name_spec s h
/-- one public's bytes -/
def one (p : Pub) : List Int := enc p.Name ++ le p.Off 2 ++ [0]
def hd (p : Pub) : List Int := ix p.Group ++ ix p.Seg ++ (if p.Seg = 0 then le p.Frame 2 else [])
def body (l : List Pub) : List Int := (match l with | [] => [] | p :: _ => hd p) ++ l.flatMap one
def okP (p : Pub) : Prop := p.Name.length ≤ 40 ∧ 0 ≤ p.Off ∧ p.Off ≤ 65535 ∧ 0 ≤ p.Frame ∧ p.Frame ≤ 65535
theorem one_length (p : Pub) : (one p).length = p.Name.length + 4 := by simp [one, enc_length, le_length]
theorem hd_length (p : Pub) : (hd p).length ≤ 6 := by
  have := (ix_len p.Group).2; have := (ix_len p.Seg).2
  unfold hd; split <;> simp [le_length] <;> omega
theorem ones_length (l : List Pub) (h : ∀ p ∈ l, okP p) : (l.flatMap one).length ≤ 44 * l.length := by
  induction l with
  | nil => simp
  | cons p l ih =>
    have h1 := (h p (by simp)).1
    have h2 := ih (fun q hq => h q (by simp [hq]))
    rw [List.flatMap_cons, List.length_append, one_length, List.length_cons]; omega
theorem body_length (l : List Pub) (h : ∀ p ∈ l, okP p) : (body l).length ≤ 44 * l.length + 6 := by
  have := ones_length l h
  unfold body
  cases l with
  | nil => simp
  | cons p l => have := hd_length p; rw [List.length_append]; simp only; omega
theorem enc_wf (s : List UInt8) (h : s.length ≤ 255) : ∀ c ∈ enc s, wfI .u8 c := by
  intro c hc
  simp only [enc, List.mem_cons] at hc
  rcases hc with rfl | hc
  · exact wfI_u8.2 ⟨by omega, by omega⟩
  · exact s2b_wf s c hc
theorem one_wf {p : Pub} (h : okP p) : ∀ c ∈ one p, wfI .u8 c := by
  intro c hc
  rcases List.mem_append.1 hc with hc | hc
  · rcases List.mem_append.1 hc with hc | hc
    · exact enc_wf _ (by have := h.1; omega) c hc
    · exact le_wf _ _ _ hc
  · simp only [List.mem_singleton] at hc; subst hc; exact wfI_u8.2 ⟨by omega, by omega⟩
theorem ones_wf {l : List Pub} (h : ∀ p ∈ l, okP p) : ∀ c ∈ l.flatMap one, wfI .u8 c := by
  intro c hc
  obtain ⟨p, hp, hc⟩ := List.mem_flatMap.1 hc
  exact one_wf (h p hp) c hc
theorem take_succ {l : List Pub} {i : Nat} (h : i < l.length) : l.take (i + 1) = l.take i ++ [l[i]] := by
  rw [List.take_add_one, List.getElem?_eq_getElem h]; rfl
theorem body_succ {l : List Pub} {i : Nat} (h : i < l.length) : body (l.take (i + 1)) = body (l.take i) ++ (if i = 0 then hd l[i] else []) ++ one l[i] := by
  cases l with
  | nil => simp at h
  | cons p l =>
    cases i with
    | zero => simp [body]
    | succ i =>
      have := take_succ (l := l) (i := i) (by simpa using h)
      simp only [body, List.take_succ_cons, List.flatMap_cons, this, List.flatMap_append, List.flatMap_nil, List.append_nil, List.append_assoc, List.getElem_cons_succ, Nat.add_one_ne_zero, if_false, List.nil_append]
theorem j31_spec (k : Int) (b : List Int) (p : Pub) (x : Int) (t7 : List Pub) (t8 t9 : Int) (hp : okP p) (hb : b.length ≤ 100000) (ht : 0 ≤ t9 ∧ t9 ≤ 1000) :
    pubs_Publics_j31 ⟨k, b⟩ p x t7 t8 t9 = some (.next (⟨k, b ++ one p⟩, t9 + 1)) := by
  obtain ⟨a1, a2, a3, a4, a5⟩ := hp
  unfold pubs_Publics_j31
  rw [name_any _ (by omega), Option.bind_some]
  simp only
  rw [grow_eq (by simp [enc_length]; omega) (by simp [enc_length]; omega), Option.bind_some, index_Two_spec a2 a3, Option.bind_some,
    grow_eq (by simp [enc_length, le_length]; omega) (by simp [enc_length, le_length]; omega), Option.bind_some,
    grow_eq (by simp [enc_length, le_length]; omega) (by simp [enc_length, le_length]; omega), Option.bind_some, wrap64 (by omega) (by omega)]
  simp [one]
theorem publics_spec (l : List Pub) (hl : l.length ≤ 1000) (h : ∀ p ∈ l, okP p) : pubs_Publics l = some ⟨144, body l⟩ := by
  unfold pubs_Publics
  rw [loop_to (f := fun x : Record × Int => pubs_Publics_l8 x.1 0 l (l.length : Int) x.2) (fun _ => (⟨144, body l⟩ : Record))
    (fun x => 0 ≤ x.2 ∧ x.2 ≤ l.length ∧ x.1 = ⟨144, body (l.take x.2.toNat)⟩) (fun x => (l.length - x.2).toNat) (fun x hx => ?_) ⟨by simp, by simp, by simp [body]⟩]
  · rfl
  · obtain ⟨r, i⟩ := x
    obtain ⟨h0, h1, h2⟩ := hx
    simp only at h0 h1 h2 ⊢
    subst h2
    unfold pubs_Publics_l8
    by_cases hi : i < (l.length : Int)
    · left
      have hlt : i.toNat < l.length := by omega
      have hp := h _ (List.getElem_mem hlt)
      have hbl := body_length (l.take i.toNat) (fun p hp => h p (List.mem_of_mem_take hp))
      rw [List.length_take] at hbl
      have e : (i + 1).toNat = i.toNat + 1 := by omega
      have hs := body_succ hlt
      simp only [hi, decide_true, if_true, idx_eq h0 hi, Option.bind_some]
      by_cases hz : i = 0
      · subst hz
        have g1 := (ix_len l[0].Group).2; have g2 := (ix_len l[0].Seg).2; have g3 := (ix_len 0).2
        simp only [Int.toNat_zero, List.take_zero] at hs hp hlt ⊢
        simp only [beq_self_eq_true, if_true, index_Put_spec, Option.bind_some]
        rw [grow_eq (by omega) (by omega), Option.bind_some]
        by_cases hsg : l[0].Seg = 0
        · simp only [hsg, beq_self_eq_true, if_true]
          rw [index_Two_spec hp.2.2.2.1 hp.2.2.2.2, Option.bind_some, grow_eq (by simp [le_length]; omega) (by simp [le_length]; omega), Option.bind_some, j31_spec _ _ _ _ _ _ _ hp (by simp [le_length]; omega) ⟨by omega, by omega⟩]
          refine ⟨_, rfl, ⟨by simp, by simp only; omega, ?_⟩, by simp only; omega, trivial⟩
          simp only
          rw [show ((0 : Int) + 1).toNat = 0 + 1 from rfl, hs]
          simp [body, hd, hsg]
        · simp only [hsg, beq_iff_eq, if_false]
          rw [j31_spec _ _ _ _ _ _ _ hp (by simp; omega) ⟨by omega, by omega⟩]
          refine ⟨_, rfl, ⟨by simp, by simp only; omega, ?_⟩, by simp only; omega, trivial⟩
          simp only
          rw [show ((0 : Int) + 1).toNat = 0 + 1 from rfl, hs]
          simp [body, hd, hsg]
      · simp only [beq_iff_eq, hz, if_false]
        rw [j31_spec _ _ _ _ _ _ _ hp (by omega) ⟨by omega, by omega⟩]
        refine ⟨_, rfl, ⟨by simp only; omega, by simp only; omega, ?_⟩, by simp only; omega, trivial⟩
        simp only [e, hs]
        rw [if_neg (by omega), List.append_nil]
    · right
      have : i.toNat = l.length := by omega
      simp [hi, this]
/-- the public as it is read -/
def asP (q p : Pub) : Pub := ⟨q.Group, q.Seg, q.Frame, p.Name, p.Off⟩
noncomputable def gl (q : Pub) (x : Source × List Pub) := loopO (fun x : (Source × (List Pub)) => pubs_Given_l16 q x.1 x.2) x
theorem gl_one (q p : Pub) (t : List Int) (out : List Pub) (hp : okP p) (ht : ∀ c ∈ t, wfI .u8 c) (ho : out.length ≤ 1000) : gl q (⟨one p ++ t, 0⟩, out) = gl q (⟨t, 0⟩, out ++ [asP q p]) := by
  obtain ⟨a1, a2, a3, a4, a5⟩ := hp
  unfold gl
  rw [loopO_eq]
  have hlen : ((one p ++ t).length : Int) > 0 := by rw [List.length_append, one_length]; omega
  have e0 : one p ++ t = enc p.Name ++ (le p.Off 2 ++ ([0] ++ t)) := by simp [one]
  have hi : index_Source_Index ⟨[0] ++ t, 0⟩ = some (0, ⟨t, 0⟩) := index_one 0 t 0 (by omega) (by omega)
  have : pubs_Given_l16 q ⟨one p ++ t, 0⟩ out = some (.next (⟨t, 0⟩, out ++ [asP q p])) := by
    unfold pubs_Given_l16
    simp only [index_Source_Left, Option.bind_some, hlen, decide_true, if_true]
    rw [e0, enc_name _ (by omega), Option.bind_some, word_le a2 a3, Option.bind_some, hi, Option.bind_some, grow_eq (by simp; omega) (by simp; omega)]
    rfl
  simp only [this]; rfl
theorem gl_end (q : Pub) (e : Int) (out : List Pub) : gl q (⟨[], e⟩, out) = some (out, ⟨[], e⟩) := by
  unfold gl
  rw [loopO_eq]
  rfl
theorem gl_many (q : Pub) (k : List Pub) (t : List Int) (out : List Pub) (hk : ∀ p ∈ k, okP p) (ht : ∀ c ∈ t, wfI .u8 c) (ho : out.length + k.length ≤ 1000) : gl q (⟨k.flatMap one ++ t, 0⟩, out) = gl q (⟨t, 0⟩, out ++ k.map (asP q)) := by
  induction k generalizing out with
  | nil => simp
  | cons p k ih =>
    rw [List.length_cons] at ho
    rw [List.flatMap_cons, List.append_assoc, gl_one q p _ out (hk p (by simp)) (fun c hc => by
      rcases List.mem_append.1 hc with hc | hc
      · exact ones_wf (fun r hr => hk r (by simp [hr])) c hc
      · exact ht c hc) (by omega), ih _ (fun r hr => hk r (by simp [hr])) (by simp; omega)]
    simp
theorem gl_cut (q p : Pub) (out : List Pub) (hp : okP p) (ho : out.length ≤ 1000) : gl q (⟨enc p.Name ++ le p.Off 2, 0⟩, out) = some (out ++ [asP q p], ⟨[], 2⟩) := by
  obtain ⟨a1, a2, a3, a4, a5⟩ := hp
  have hlen : ((enc p.Name ++ le p.Off 2).length : Int) > 0 := by rw [List.length_append, enc_length]; omega
  have w : index_Source_Word ⟨le p.Off 2, 0⟩ = some (p.Off, ⟨[], 0⟩) := by have := word_le a2 a3 []; simpa using this
  have : pubs_Given_l16 q ⟨enc p.Name ++ le p.Off 2, 0⟩ out = some (.next (⟨[], 2⟩, out ++ [asP q p])) := by
    unfold pubs_Given_l16
    simp only [index_Source_Left, Option.bind_some, hlen, decide_true, if_true]
    rw [enc_name _ (by omega), Option.bind_some, w, Option.bind_some, index_nil, Option.bind_some, grow_eq (by simp; omega) (by simp; omega)]
    rfl
  rw [← gl_end q 2]
  unfold gl
  rw [loopO_eq]
  simp only [this]; rfl
/-- all share what the record says once -/
def same (q p : Pub) : Prop := p.Group = q.Group ∧ p.Seg = q.Seg ∧ p.Frame = q.Frame
theorem given_body (q : Pub) (r : List Int) (h0 : 0 ≤ q.Group ∧ q.Group ≤ 32767) (h1 : 0 ≤ q.Seg ∧ q.Seg ≤ 32767) (h2 : 0 ≤ q.Frame ∧ q.Frame ≤ 65535) (h3 : q.Seg ≠ 0 → q.Frame = 0) (hr : ∀ c ∈ r, wfI .u8 c) (hl : r.length ≤ 100000) :
    pubs_Given (hd q ++ r) = (gl ⟨q.Group, q.Seg, q.Frame, [], 0⟩ (⟨r, 0⟩, [])).bind fun e => if e.2.e != 0 then some ([], e.2.e) else some (e.1, 0) := by
  have g := hd_length q
  unfold pubs_Given
  rw [from_spec _ (by rw [List.length_append]; omega), Option.bind_some]
  have hw : ∀ c ∈ (if q.Seg = 0 then le q.Frame 2 else []) ++ r, wfI .u8 c := by
    intro c hc
    rcases List.mem_append.1 hc with hc | hc
    · split at hc
      · exact le_wf _ _ _ hc
      · simp at hc
    · exact hr c hc
  unfold hd
  rw [List.append_assoc, List.append_assoc, index_ix h0.1 h0.2 _ (fun c hc => by
    rcases List.mem_append.1 hc with hc | hc
    · exact ix_wf _ _ hc
    · exact hw c hc), Option.bind_some, index_ix h1.1 h1.2 _ hw, Option.bind_some]
  by_cases hs : q.Seg = 0
  · simp only [hs, beq_self_eq_true, if_true]
    rw [word_le h2.1 h2.2, Option.bind_some]; rfl
  · have : (q.Seg == 0) = false := by simp [hs]
    simp only [this, Bool.false_eq_true, if_false, hs, List.nil_append, h3 hs]; rfl
theorem and15 (x : Int) : bitsOp .and .i64 x 32767 = x % 32768 := and_mask x 15 (by omega)
theorem and9 (x : Int) : bitsOp .and .i64 x 511 = x % 512 := and_mask x 9 (by omega)
/-- what the law holds of a list of publics: all share the group, the segment and the frame -/
def good (g s f : Int) (l : List Pub) : Prop := l.length ≤ 8 ∧ ∀ p ∈ l, okP p ∧ p.Group = g ∧ p.Seg = s ∧ p.Frame = f
theorem same_map {g s f : Int} {l : List Pub} (h : ∀ p ∈ l, p.Group = g ∧ p.Seg = s ∧ p.Frame = f) : l.map (asP ⟨g, s, f, [], 0⟩) = l := by
  conv => rhs; rw [← List.map_id l]
  apply List.map_congr_left
  intro p hp
  obtain ⟨h1, h2, h3⟩ := h p hp
  obtain ⟨a, b, c, d, e⟩ := p
  simp only at h1 h2 h3
  subst h1 h2 h3; rfl
theorem given_full {g s f : Int} {l : List Pub} (h : good g s f l) (hn : l ≠ []) (h0 : 0 ≤ g ∧ g ≤ 32767) (h1 : 0 ≤ s ∧ s ≤ 32767) (h2 : 0 ≤ f ∧ f ≤ 65535) (h3 : s ≠ 0 → f = 0) :
    pubs_Given (body l) = some (l, 0) := by
  cases l with
  | nil => exact absurd rfl hn
  | cons p l =>
    obtain ⟨hl, hp⟩ := h
    have hk : ∀ q ∈ p :: l, okP q := fun q hq => (hp q hq).1
    obtain ⟨_, e1, e2, e3⟩ := hp p (by simp)
    subst e1 e2 e3
    have := given_body p ((p :: l).flatMap one) h0 h1 h2 h3 (ones_wf hk) (by have := ones_length _ hk; omega)
    unfold body
    simp only
    rw [this]
    have g2 := gl_many ⟨p.Group, p.Seg, p.Frame, [], 0⟩ (p :: l) [] [] hk (by simp) (by simp at hl ⊢; omega)
    rw [List.append_nil] at g2
    rw [g2, gl_end, same_map (fun q hq => (hp q hq).2)]
    simp
theorem body_last {l : List Pub} (hn : l ≠ []) : ∃ k p, l = k ++ [p] := by
  rcases List.eq_nil_or_concat l with h | ⟨k, p, h⟩
  · exact absurd h hn
  · exact ⟨k, p, by simpa using h⟩
theorem given_cut {g s f : Int} {l : List Pub} (h : good g s f l) (hn : l ≠ []) (h0 : 0 ≤ g ∧ g ≤ 32767) (h1 : 0 ≤ s ∧ s ≤ 32767) (h2 : 0 ≤ f ∧ f ≤ 65535) (h3 : s ≠ 0 → f = 0) :
    pubs_Given ((body l).take ((body l).length - 1)) = some ([], 2) := by
  obtain ⟨k, p, rfl⟩ := body_last hn
  obtain ⟨hl, hp⟩ := h
  rw [List.length_append, List.length_singleton] at hl
  have hk : ∀ q ∈ k, okP q := fun q hq => (hp q (by simp [hq])).1
  have hpp := hp p (by simp)
  have hq : ∃ q : Pub, body (k ++ [p]) = hd q ++ (k.flatMap one ++ one p) ∧ q.Group = g ∧ q.Seg = s ∧ q.Frame = f := by
    cases k with
    | nil => exact ⟨p, by simp [body], hpp.2⟩
    | cons q k => exact ⟨q, by simp [body], (hp q (by simp)).2⟩
  obtain ⟨q, hb, e1, e2, e3⟩ := hq
  subst e1 e2 e3
  have ht : (body (k ++ [p])).take ((body (k ++ [p])).length - 1) = hd q ++ (k.flatMap one ++ (enc p.Name ++ le p.Off 2)) := by
    rw [hb]
    have : hd q ++ (k.flatMap one ++ one p) = (hd q ++ (k.flatMap one ++ (enc p.Name ++ le p.Off 2))) ++ [0] := by simp [one]
    rw [this, List.length_append, List.length_singleton, Nat.add_sub_cancel, List.take_left]
  have hw : ∀ c ∈ enc p.Name ++ le p.Off 2, wfI .u8 c := by
    intro c hc
    rcases List.mem_append.1 hc with hc | hc
    · exact enc_wf _ (by have := hpp.1.1; omega) c hc
    · exact le_wf _ _ _ hc
  have hol := ones_length k hk
  have hpl := hpp.1.1
  rw [ht, given_body q _ h0 h1 h2 h3 (fun c hc => by
    rcases List.mem_append.1 hc with hc | hc
    · exact ones_wf hk c hc
    · exact hw c hc) (by simp only [List.length_append, enc_length, le_length]; omega), gl_many _ k _ [] hk hw (by simp; omega), gl_cut _ p _ hpp.1 (by simp; omega)]
  rfl
theorem awake_true : hansomlaw22_awake = some true := by
  have hg : good 1 2 0 [⟨1, 2, 0, [65], 7⟩] := ⟨by simp, fun p hp => by
    simp only [List.mem_singleton] at hp; subst hp
    exact ⟨⟨by simp, by simp, by simp, by simp, by simp⟩, rfl, rfl, rfl⟩⟩
  unfold hansomlaw22_awake
  rw [publics_spec _ (by simp) (fun p hp => (hg.2 p hp).1), Option.bind_some]
  simp only
  rw [given_full hg (by simp) (by omega) (by omega) (by omega) (by omega), Option.bind_some]
  rfl
theorem Bytes_spec {n : Int} {k : Nat} (h0 : 0 ≤ n) (h1 : n ≤ 18446744073709551615) (hk : k ≤ 1000) : hansomref18_Bytes n (k : Int) = some (b2s (le n k)) := by
  unfold hansomref18_Bytes
  rw [loop_to (f := fun x : Int × List UInt8 × Int => hansomref18_Bytes_l8 x.1 (k : Int) x.2.1 x.2.2) (fun x => x.2.1 ++ b2s (le x.1 (k - x.2.2.toNat)))
    (fun x => 0 ≤ x.1 ∧ x.1 ≤ 18446744073709551615 ∧ 0 ≤ x.2.2 ∧ x.2.2 ≤ k ∧ (x.2.1.length : Int) = x.2.2) (fun x => (k - x.2.2).toNat) (fun x hx => ?_) ⟨h0, h1, by simp, by simp, by simp⟩]
  · simp
  · obtain ⟨m, s, i⟩ := x
    obtain ⟨a0, a1, a2, a3, a4⟩ := hx
    simp only at a0 a1 a2 a3 a4 ⊢
    unfold hansomref18_Bytes_l8
    by_cases hi : i < (k : Int)
    · left
      rw [Int.tdiv_eq_ediv_of_nonneg a0, Int.tmod_eq_emod_of_nonneg a0, wrapu8 (n := m % 256) (by omega) (by omega), wrap64 (n := i + 1) (by omega) (by omega), wrap_u64', catS_eq (by simp [b2s]; omega)]
      simp only [hi, decide_true, if_true, Option.bind_some]
      have e : k - i.toNat = (k - (i + 1).toNat) + 1 := by omega
      refine ⟨_, rfl, ⟨by simp only; omega, by simp only; omega, by simp only; omega, by simp only; omega, by simp only [List.length_append, b2s_length, List.length_cons, List.length_nil]; omega⟩, by simp only; omega, ?_⟩
      simp only [e, le, b2s_cons, List.append_assoc]
      rw [show m / 256 % 18446744073709551616 = m / 256 by omega]
      rfl
    · right
      have e : k - i.toNat = 0 := by omega
      simp [hi, e, le, b2s]
theorem le_mod {k : Nat} {n : Int} (h : 0 ≤ n) : le (n % 65536) 2 = le n 2 := by
  simp only [le, List.cons.injEq, and_true]
  constructor <;> omega
/-- a long number's bytes -/
def lg (n : Int) : List Int := if n ≤ 128 then le n 1 else if n < 65536 then 129 :: le n 2 else if n < 16777216 then 132 :: le n 3 else 136 :: le n 4
theorem ref_Long_spec {n : Int} (h0 : 0 ≤ n) (h1 : n ≤ 4294967295) : hansomref18_Long n = some (b2s (lg n)) := by
  unfold hansomref18_Long lg
  have w : IntKind.wrap .u64 n = n := by rw [wrap_u64']; omega
  have b : ∀ k : Nat, k ≤ 4 → hansomref18_Bytes n (k : Int) = some (b2s (le n k)) := fun k hk => Bytes_spec h0 (by omega) (by omega)
  have b1 : hansomref18_Bytes n 1 = _ := b 1 (by omega)
  have b2 : hansomref18_Bytes n 2 = _ := b 2 (by omega)
  have b3 : hansomref18_Bytes n 3 = _ := b 3 (by omega)
  have b4 : hansomref18_Bytes n 4 = _ := b 4 (by omega)
  rw [w]
  by_cases a1 : n ≤ 128
  · simp only [a1, decide_true, if_true]; rw [b1]; rfl
  · by_cases a2 : n < 65536
    · simp only [a1, a2, decide_true, decide_false, Bool.false_eq_true, if_true, if_false]
      rw [b2, Option.bind_some, catS_eq (by simp [b2s, le])]; rfl
    · by_cases a3 : n < 16777216
      · simp only [a1, a2, a3, decide_true, decide_false, Bool.false_eq_true, if_true, if_false]
        rw [b3, Option.bind_some, catS_eq (by simp [b2s, le])]; rfl
      · simp only [a1, a2, a3, decide_true, decide_false, Bool.false_eq_true, if_true, if_false]
        rw [b4, Option.bind_some, catS_eq (by simp [b2s, le])]; rfl
theorem ref_Name_cut (s : List UInt8) : hansomref18_Name s = some (b2s (enc (s.take 255))) := by
  by_cases h : s.length ≤ 255
  · rw [ref_spec s h, List.take_of_length_le h]
  · unfold hansomref18_Name
    have : ((s.length : Int) > 255) := by omega
    simp only [this, decide_true, if_true]
    rw [show (255 : Int) = ((255 : Nat) : Int) from rfl, cut_to s (by omega), Option.bind_some, wrapu8 (n := ((s.take 255).length : Int)) (by omega) (by simp; omega), catS_eq (by simp [b2s]; omega)]
    simp only [Option.bind_some, enc, b2s_cons, b2s_s2b]; rfl
theorem index_Four_spec {w : Int} (h0 : 0 ≤ w) (h1 : w ≤ 4294967295) : index_Four w = some (le w 4) := by
  unfold index_Four
  have e : shrI .u32 w 16 = w / 65536 := shr_eq (j := 16) (by decide)
  rw [e, wrap_u16', wrap_u16', index_Two_spec (by omega) (by omega), Option.bind_some, index_Two_spec (by omega) (by omega), Option.bind_some, grow_eq (by simp [le]) (by simp [le])]
  simp only [Option.bind_some, le, List.cons_append, List.nil_append, Option.some.injEq, List.cons.injEq, and_true, true_and]
  refine ⟨by omega, by omega, by omega, by omega⟩
theorem index_Long_spec {n : Int} (h0 : 0 ≤ n) (h1 : n ≤ 4294967295) : index_Long n = some (lg n) := by
  unfold index_Long lg
  by_cases a1 : n ≤ 128
  · simp [a1, wrap_u8', le]
  · by_cases a2 : n < 65536
    · simp only [a1, a2, decide_true, decide_false, Bool.false_eq_true, if_true, if_false]
      rw [wrapu16 (by omega) (by omega), index_Two_spec (by omega) (by omega), Option.bind_some, grow_eq (by simp [le]) (by simp [le])]; rfl
    · by_cases a3 : n < 16777216
      · simp only [a1, a2, a3, decide_true, decide_false, Bool.false_eq_true, if_true, if_false]
        rw [index_Four_spec h0 h1, Option.bind_some, cutL_eq (by omega) (by omega) (by simp [le]), Option.bind_some, grow_eq (by simp [le]) (by simp [le])]; rfl
      · simp only [a1, a2, a3, decide_true, decide_false, Bool.false_eq_true, if_true, if_false]
        rw [index_Four_spec h0 h1, Option.bind_some, grow_eq (by simp [le]) (by simp [le])]; rfl
/-! ### long numbers that are read -/
theorem or_u32 {x y : Int} (j : Nat) (a : Nat) (hx : x = ((2 ^ j * a : Nat) : Int)) (hb : 2 ^ j * a + 2 ^ j ≤ 2 ^ 32) (h0 : 0 ≤ y) (h1 : y < (2 ^ j : Nat)) : bitsOp .or .u32 y x = y + x := by
  have e : bitsOp .or .u32 y x = IntKind.wrap .u32 (((BitVec.ofInt 32 y ||| BitVec.ofInt 32 x).toNat : Nat) : Int) := rfl
  have e1 : (BitVec.ofInt 32 x).toNat = 2 ^ j * a := by rw [BitVec.toNat_ofInt]; omega
  have e2 : (BitVec.ofInt 32 y).toNat = y.toNat := by rw [BitVec.toNat_ofInt]; omega
  have h2 : y.toNat < 2 ^ j := by omega
  have hw : ∀ n : Int, IntKind.wrap .u32 n = n % 4294967296 := fun n => by simp [IntKind.wrap, IntKind.bits, IntKind.signed]
  rw [e, BitVec.toNat_or, e1, e2, Nat.or_comm, ← Nat.two_pow_add_eq_or_of_lt h2, hw]
  omega
theorem wrap_u32' (n : Int) : IntKind.wrap .u32 n = n % 4294967296 := by simp [IntKind.wrap, IntKind.bits, IntKind.signed]
/-- the number of bytes, the lowest first -/
def un : List Int → Int
  | [] => 0
  | c :: r => c + 256 * un r
theorem emod_split (n M : Int) (hM : 0 < M) : n % (256 * M) = n % 256 + 256 * (n / 256 % M) := by
  have h1 := Int.mul_ediv_add_emod n 256
  have h2 := Int.mul_ediv_add_emod (n / 256) M
  have h3 := Int.emod_nonneg (n / 256) (show M ≠ 0 by omega)
  have h4 := Int.emod_lt_of_pos (n / 256) hM
  have e : n = (n % 256 + 256 * (n / 256 % M)) + 256 * M * (n / 256 / M) := by
    have : 256 * M * (n / 256 / M) = 256 * (M * (n / 256 / M)) := Int.mul_assoc _ _ _
    rw [this]; omega
  conv => lhs; rw [e]
  rw [Int.add_mul_emod_self_left]
  exact Int.emod_eq_of_lt (by omega) (by omega)
theorem un_le : ∀ (k : Nat) (n : Int), 0 ≤ n → un (le n k) = n % ((256 ^ k : Nat) : Int)
  | 0, n, _ => by simp [un, le]
  | k + 1, n, h => by
    simp only [un, le]
    have h1 : (0 : Int) < ((256 ^ k : Nat) : Int) := by exact_mod_cast Nat.pos_of_ne_zero (by simp)
    rw [un_le k (n / 256) (by omega), Nat.pow_succ, Nat.mul_comm]
    rw [show ((256 * 256 ^ k : Nat) : Int) = 256 * ((256 ^ k : Nat) : Int) from by simp, emod_split _ _ h1]
theorem un_append : ∀ (a b : List Int), un (a ++ b) = un a + ((256 ^ a.length : Nat) : Int) * un b
  | [], b => by simp [un]
  | c :: a, b => by
    simp only [List.cons_append, un, un_append a b, List.length_cons, Nat.pow_succ]
    push_cast
    rw [Int.mul_add, ← Int.mul_assoc, Int.mul_comm (256 : Int) (256 ^ a.length), Int.add_assoc]
theorem un_lo : ∀ (a : List Int), (∀ c ∈ a, wfI .u8 c) → 0 ≤ un a ∧ un a < ((256 ^ a.length : Nat) : Int)
  | [], _ => by simp [un]
  | c :: a, h => by
    obtain ⟨i0, i1⟩ := un_lo a fun x hx => h x (by simp [hx])
    obtain ⟨c0, c1⟩ := wfI_u8.1 (h c (by simp))
    simp only [un, List.length_cons, Nat.pow_succ]
    push_cast at *
    omega
theorem long_step (s : Source) (out : Int) (t : List Int) (i : Nat) (hi : i < t.length) (ht : t.length ≤ 4) (hw : ∀ c ∈ t, wfI .u8 c) (ho : out = un (t.take i)) :
    index_Source_Long_l29 s out t (t.length : Int) (i : Int) = some (.next (un (t.take (i + 1)), ((i + 1 : Nat) : Int))) := by
  unfold index_Source_Long_l29
  have hlt : (i : Int) < (t.length : Int) := by omega
  obtain ⟨c0, c1⟩ := wfI_u8.1 (hw t[i] (List.getElem_mem hi))
  have hlow := un_lo (t.take i) fun c hc => hw c (List.mem_of_mem_take hc)
  rw [← ho, List.length_take, Nat.min_eq_left (by omega)] at hlow
  have e8 : IntKind.wrap .i64 (8 * (i : Int)) = ((8 * i : Nat) : Int) := by rw [wrap64 (by omega) (by omega)]; omega
  have hp : 256 ^ i = 2 ^ (8 * i) := by rw [Nat.pow_mul]
  have hp4 : 2 ^ (8 * i) * 256 ≤ 2 ^ 32 := by
    rw [show (256 : Nat) = 2 ^ 8 from rfl, ← Nat.pow_add]
    exact Nat.pow_le_pow_right (by omega) (by omega)
  have hmul : 2 ^ (8 * i) * (t[i]).toNat ≤ 2 ^ (8 * i) * 255 := Nat.mul_le_mul_left _ (by omega)
  have esh : shlO .u32 (IntKind.wrap .u32 t[i]) ((8 * i : Nat) : Int) = some ((2 ^ (8 * i) * (t[i]).toNat : Nat) : Int) := by
    unfold shlO
    rw [if_neg (by omega), wrap_u32']
    unfold shlI
    have hb : min ((8 * i : Nat) : Int).toNat (IntKind.bits .u32) = 8 * i := by simp only [Int.toNat_natCast, show IntKind.bits .u32 = 32 from rfl]; omega
    rw [hb, wrap_u32', show t[i] % 4294967296 = t[i] by omega]
    have : t[i] * (2 : Int) ^ (8 * i) = ((2 ^ (8 * i) * (t[i]).toNat : Nat) : Int) := by
      rw [Int.natCast_mul, Int.toNat_of_nonneg c0, Int.natCast_pow, Int.mul_comm]; rfl
    rw [this]
    congr 1
    omega
  have eor : bitsOp .or .u32 out ((2 ^ (8 * i) * (t[i]).toNat : Nat) : Int) = un (t.take (i + 1)) := by
    rw [or_u32 (8 * i) (t[i]).toNat rfl (by omega) hlow.1 (by rw [← hp]; exact hlow.2)]
    have et : t.take (i + 1) = t.take i ++ [t[i]] := by rw [List.take_succ_eq_append_getElem hi]
    rw [et, un_append, ← ho, List.length_take, Nat.min_eq_left (by omega), hp]
    simp only [un, Int.mul_zero, Int.add_zero]
    rw [Int.natCast_mul, Int.toNat_of_nonneg c0]
  simp only [hlt, decide_true, if_true, idx_nat hi, Option.bind_some, e8, esh, eor, wrap64 (n := (i : Int) + 1) (by omega) (by omega)]
  rfl
theorem long_loop (s : Source) (t : List Int) (ht : t.length ≤ 4) (hw : ∀ c ∈ t, wfI .u8 c) : loopO (fun x : Int × Int => index_Source_Long_l29 s x.1 t (t.length : Int) x.2) (0, 0) = some (un t) := by
  refine loop_to (f := fun x : Int × Int => index_Source_Long_l29 s x.1 t (t.length : Int) x.2) (fun _ => un t) (fun x => ∃ i : Nat, x.2 = i ∧ i ≤ t.length ∧ x.1 = un (t.take i)) (fun x => (t.length - x.2).toNat) (fun x hx => ?_) ⟨0, rfl, by omega, by simp [un]⟩
  obtain ⟨o, j⟩ := x
  obtain ⟨i, rfl, hi, ho⟩ := hx
  simp only at ho ⊢
  by_cases hlt : i < t.length
  · left
    exact ⟨_, long_step s o t i hlt ht hw ho, ⟨i + 1, rfl, by omega, rfl⟩, by simp only; omega, trivial⟩
  · right
    have : i = t.length := by omega
    subst this
    unfold index_Source_Long_l29
    simp [ho]
theorem long_mark (c : Int) (k : Nat) (b : List Int) (n : Int) (hc : c = 129 ∧ k = 2 ∨ c = 132 ∧ k = 3 ∨ c = 136 ∧ k = 4) (h0 : 0 ≤ n) (h1 : n < ((256 ^ k : Nat) : Int)) :
    index_Source_Long ⟨c :: (le n k ++ b), 0⟩ = some (n, ⟨b, 0⟩) := by
  unfold index_Source_Long
  rw [byte_cons, Option.bind_some]
  have hk : lkpI [(129, 2), (132, 3), (136, 4)] c = (k : Int) ∧ ¬ c ≤ 128 ∧ 2 ≤ k ∧ k ≤ 4 := by
    rcases hc with ⟨rfl, rfl⟩ | ⟨rfl, rfl⟩ | ⟨rfl, rfl⟩ <;> exact ⟨rfl, by decide, by decide, by decide⟩
  obtain ⟨hk, hc', k2, k4⟩ := hk
  have hz : ((k : Int) == 0) = false := by simp; omega
  simp only [hc', decide_false, Bool.false_eq_true, if_false, hk, hz]
  rw [take_ok _ (by omega) (by simp [le_length]; omega), Option.bind_some]
  simp only [Int.toNat_natCast]
  have e1 : List.take k (le n k ++ b) = le n k := by rw [List.take_append_of_le_length (by rw [le_length]; omega), List.take_of_length_le (by rw [le_length]; omega)]
  have e2 : List.drop k (le n k ++ b) = b := by rw [List.drop_append_of_le_length (by rw [le_length]; omega), List.drop_of_length_le (by rw [le_length]; omega)]; rfl
  rw [e1, e2, long_loop _ _ (by rw [le_length]; omega) (le_wf n k), Option.bind_some, un_le k n h0, Int.emod_eq_of_lt h0 h1]
theorem long_lg {n : Int} (h0 : 0 ≤ n) (h1 : n ≤ 4294967295) (b : List Int) : index_Source_Long ⟨lg n ++ b, 0⟩ = some (n, ⟨b, 0⟩) := by
  unfold lg
  by_cases a1 : n ≤ 128
  · simp only [a1, if_true, le, List.cons_append, List.nil_append]
    unfold index_Source_Long
    rw [byte_cons, Option.bind_some, show n % 256 = n by omega]
    simp only [a1, decide_true, if_true, wrap_u32', show n % 4294967296 = n by omega]
  · by_cases a2 : n < 65536
    · simp only [a1, a2, if_true, if_false]
      exact long_mark 129 2 b n (.inl ⟨rfl, rfl⟩) h0 (by omega)
    · by_cases a3 : n < 16777216
      · simp only [a1, a2, a3, if_true, if_false]
        exact long_mark 132 3 b n (.inr (.inl ⟨rfl, rfl⟩)) h0 (by omega)
      · simp only [a1, a2, a3, if_false]
        exact long_mark 136 4 b n (.inr (.inr ⟨rfl, rfl⟩)) h0 (by omega)
theorem long_end (e : Int) (he : e ≠ 0) : index_Source_Long ⟨[], e⟩ = some (0, ⟨[], e⟩) := by
  unfold index_Source_Long
  rw [byte_end e he, Option.bind_some]
  rfl
theorem long_bad (c : Int) (r : List Int) (h : c = 133 ∨ c = 137) : index_Source_Long ⟨c :: r, 0⟩ = some (0, ⟨[], 3⟩) := by
  unfold index_Source_Long
  rw [byte_cons, Option.bind_some]
  rcases h with rfl | rfl <;> simp [lkpI, lkpO, index_Source_Wrong]

end Go.Es.Pmd
