/- What is read of a record's bytes: in plain Lean. No condition. -/
import Derived.Test.YtbogbgbpahonoaaAppP
set_option linter.unusedVariables false
set_option linter.unusedSimpArgs false
set_option maxHeartbeats 1000000
set_option maxRecDepth 100000
namespace Go.Es.App
theorem cut_min {α : Type} (l : List α) (k : Nat) : cutL l 0 (mnI (l.length : Int) (k : Int)) = some (l.take k) := by
  rw [mnI_eq, cutL_eq (by omega) (by omega) (by omega)]
  have : (min (l.length : Int) (k : Int)).toNat = min l.length k := by omega
  simp only [Int.toNat_zero, List.drop_zero, Nat.sub_zero, this]
  congr 1
  by_cases h : k ≤ l.length
  · rw [Nat.min_eq_right h]
  · rw [Nat.min_eq_left (by omega), List.take_of_length_le (by omega), List.take_of_length_le (by omega)]
theorem cut_to {α : Type} (l : List α) {k : Nat} (h : k ≤ l.length) : cutL l 0 (k : Int) = some (l.take k) := by
  rw [cutL_eq (by omega) (by omega) (by omega)]; simp
theorem b2s_s2b (s : List UInt8) : b2s (s2b s) = s := by
  simp only [b2s, s2b, List.map_map]
  conv => rhs; rw [← List.map_id s]
  apply List.map_congr_left
  intro c _
  simp
theorem s2b_b2s {l : List Int} (h : ∀ c ∈ l, wfI .u8 c) : s2b (b2s l) = l := by
  simp only [b2s, s2b, List.map_map]
  conv => rhs; rw [← List.map_id l]
  apply List.map_congr_left
  intro c hc
  obtain ⟨h0, h1⟩ := wfI_u8.1 (h c hc)
  simp only [Function.comp, id, UInt8.toNat_ofNat']
  omega
theorem b2s_append (a b : List Int) : b2s (a ++ b) = b2s a ++ b2s b := by simp [b2s]
theorem b2s_cons (a : Int) (b : List Int) : b2s (a :: b) = UInt8.ofNat a.toNat :: b2s b := rfl
theorem s2b_append (a b : List UInt8) : s2b (a ++ b) = s2b a ++ s2b b := by simp [s2b]
theorem s2b_length (s : List UInt8) : (s2b s).length = s.length := by simp [s2b]
theorem b2s_length (s : List Int) : (b2s s).length = s.length := by simp [b2s]
theorem s2b_take (s : List UInt8) (k : Nat) : s2b (s.take k) = (s2b s).take k := by simp [s2b, List.map_take]
theorem s2b_wf (s : List UInt8) : ∀ c ∈ s2b s, wfI .u8 c := by
  intro c hc
  simp only [s2b, List.mem_map] at hc
  obtain ⟨x, _, rfl⟩ := hc
  have := x.toNat_lt
  exact wfI_u8.2 ⟨by omega, by omega⟩

/-! ### sources -/
/-! ### names -/
/-- a name's bytes -/
def enc (s : List UInt8) : List Int := (s.length : Int) :: s2b s
theorem enc_length (s : List UInt8) : (enc s).length = s.length + 1 := by simp [enc, s2b]

theorem and_mask' {x : Int} {m : Int} (j : Nat) (hj : j ≤ 62) (hm : m = ((2 ^ j - 1 : Nat) : Int)) : bitsOp .and .i64 x m = x % (2 ^ j : Nat) := by
  subst hm; exact and_mask x j hj
theorem size_ok (l : Int) : ∃ s, hansomref25_Size l = some s ∧ 1 ≤ s ∧ s ≤ 4 := by
  unfold hansomref25_Size
  by_cases h0 : (l == 0) = true
  · exact ⟨1, by rw [if_pos h0], by omega, by omega⟩
  by_cases h4 : (l == 4) = true
  · exact ⟨1, by rw [if_neg h0, if_pos h4], by omega, by omega⟩
  by_cases h3 : (l == 3) = true
  · exact ⟨4, by rw [if_neg h0, if_neg h4, if_pos h3], by omega, by omega⟩
  · exact ⟨2, by rw [if_neg h0, if_neg h4, if_neg h3], by omega, by omega⟩
theorem size_same (l : Int) : fixup_Size l = hansomref25_Size l := rfl

theorem tm5 (a : Int) (h : 0 ≤ a) : 0 ≤ Int.tmod a 5 ∧ Int.tmod a 5 < 5 := ⟨Int.tmod_nonneg _ h, Int.tmod_lt_of_pos _ (by omega)⟩
theorem tm3 (a : Int) (h : 0 ≤ a) : 0 ≤ Int.tmod a 3 ∧ Int.tmod a 3 < 3 := ⟨Int.tmod_nonneg _ h, Int.tmod_lt_of_pos _ (by omega)⟩
theorem m255 (x : Int) : 0 ≤ bitsOp .and .i64 x 255 := by
  have : bitsOp .and .i64 x 255 = x % 256 := and_mask' 8 (by omega) rfl
  rw [this]; exact Int.emod_nonneg _ (by decide)
abbrev M5 : A3 Int := { a0 := 5, a1 := 5, a2 := 5 }
theorem at5 {i : Int} (h0 : 0 ≤ i) (h1 : i < 3) : idx M5.l i = some 5 := by
  have : i = 0 ∨ i = 1 ∨ i = 2 := by omega
  rcases this with rfl | rfl | rfl <;> rfl
theorem rem5 (x : Int) : remI .i64 x 5 = some (Int.tmod x 5) := rfl
theorem j33_ok (f x : Fixup) (ht : 0 ≤ x.Target ∧ x.Target < 3) (hf : 0 ≤ x.Frame) : ∃ y, hansomref25_Near_j33 f M5 x = some y ∧ y.Loc = x.Loc ∧ y.Self = x.Self := by
  unfold hansomref25_Near_j33
  rw [at5 ht.1 ht.2, Option.bind_some, rem5, Option.bind_some]
  by_cases h : x.Frame < 3
  · rw [if_pos (by simpa using h), at5 hf h, Option.bind_some, rem5, Option.bind_some]
    exact ⟨_, rfl, rfl, rfl⟩
  · rw [if_neg (by simpa using h)]
    exact ⟨_, rfl, rfl, rfl⟩
theorem j27_ok (f x : Fixup) (ht : 0 ≤ x.Target ∧ x.Target < 3) (hf : 0 ≤ x.Frame) : ∃ y, hansomref25_Near_j27 f M5 x = some y ∧ y.Loc = x.Loc ∧ y.Self = x.Self := by
  unfold hansomref25_Near_j27
  by_cases h : x.Frame < 3
  · rw [if_pos (by simpa using h), at5 hf h, Option.bind_some, if_neg (by decide)]
    exact j33_ok f x ht hf
  · rw [if_neg (by simpa using h)]
    exact j33_ok f x ht hf
theorem j6_ok (f x : Fixup) : ∃ y, hansomref25_Near_j6 f M5 x 100 = some y ∧ y.Loc = x.Loc ∧ y.Self = x.Self := by
  unfold hansomref25_Near_j6
  obtain ⟨s, hs, h1, h4⟩ := size_ok x.Loc
  rw [hs, Option.bind_some, wrap64 (n := 100 - s) (by omega) (by omega), wrap64 (n := 100 - s + 1) (by omega) (by omega), mnI_eq]
  have hr : ∃ z, remI .i64 (bitsOp .and .i64 f.At 65535) (min (100 - s + 1) 1024) = some z := by
    unfold remI
    rw [if_neg (by omega)]
    exact ⟨_, rfl⟩
  obtain ⟨z, hz⟩ := hr
  rw [hz, Option.bind_some]
  have ht := tm3 _ (m255 f.Target)
  have hf := (tm5 _ (m255 f.Frame)).1
  rw [loopO_eq]
  simp only [hansomref25_Near_l12, at5 ht.1 ht.2, Option.bind_some]
  rw [if_neg (by decide)]
  simp only [Option.bind_some]
  split
  · exact j27_ok f _ ht (by simp only; omega)
  · exact j27_ok f _ ht hf
theorem near_ok (f : Fixup) : ∃ x, hansomref25_Near f 100 M5 = some x ∧ 0 ≤ x.Loc ∧ x.Loc < 5 := by
  unfold hansomref25_Near
  have h5 := tm5 _ (m255 f.Loc)
  split
  · obtain ⟨y, h1, h2, _⟩ := j6_ok ({ f with Self := true } : Fixup) ({ At := 0, Loc := (Int.tmod (bitsOp .and .i64 f.Loc 255) 5), Self := (decide ((Int.tmod (bitsOp .and .i64 f.Loc 255) 5) < 2)), Frame := 0, FrameN := 0, Target := 0, N := 0, Disp := 0 } : Fixup)
    exact ⟨y, h1, by rw [h2]; exact h5⟩
  · obtain ⟨y, h1, h2, _⟩ := j6_ok ({ f with Self := false } : Fixup) ({ At := 0, Loc := (Int.tmod (bitsOp .and .i64 f.Loc 255) 5), Self := false, Frame := 0, FrameN := 0, Target := 0, N := 0, Disp := 0 } : Fixup)
    exact ⟨y, h1, by rw [h2]; exact h5⟩
theorem or_u16 {x y : Int} (j : Nat) (a : Nat) (hx : x = ((2 ^ j * a : Nat) : Int)) (hb : 2 ^ j * a + 2 ^ j ≤ 2 ^ 16) (h0 : 0 ≤ y) (h1 : y < (2 ^ j : Nat)) : bitsOp .or .u16 y x = y + x := by
  have e : bitsOp .or .u16 y x = IntKind.wrap .u16 (((BitVec.ofInt 16 y ||| BitVec.ofInt 16 x).toNat : Nat) : Int) := rfl
  obtain ⟨m, rfl⟩ : ∃ m : Nat, y = m := ⟨y.toNat, by omega⟩
  have hm : m < 2 ^ j := by omega
  subst hx
  rw [e]
  have e1 : (BitVec.ofInt 16 (m : Int)).toNat = m := by
    have := ofInt_toNat 16 (m : Int)
    have h : m < 65536 := by omega
    omega
  have e2 : (BitVec.ofInt 16 ((2 ^ j * a : Nat) : Int)).toNat = 2 ^ j * a := by
    have := ofInt_toNat 16 ((2 ^ j * a : Nat) : Int)
    have h : 2 ^ j * a < 65536 := by omega
    omega
  rw [BitVec.toNat_or, e1, e2, Nat.or_comm, ← Nat.two_pow_add_eq_or_of_lt hm, wrap_u16']
  have h : 2 ^ j * a + m < 65536 := by omega
  omega
theorem or8 {x y : Int} (hx : 0 ≤ x ∧ x ≤ 255) (hy : 0 ≤ y ∧ y ≤ 255) : bitsOp .or .u16 x (shlI .u16 y 8) = x + 256 * y := by
  have e : shlI .u16 y 8 = 256 * y := by
    have : shlI .u16 y 8 = IntKind.wrap .u16 (y * 256) := rfl
    rw [this, wrapu16 (by omega) (by omega)]; omega
  rw [e]
  obtain ⟨m, rfl⟩ : ∃ m : Nat, y = m := ⟨y.toNat, by omega⟩
  rw [or_u16 8 m (by push_cast; rfl) (by omega) hx.1 (by have := hx.2; omega)]
def By (l : List Int) : Prop := ∀ x ∈ l, 0 ≤ x ∧ x ≤ 255
theorem By.get {l : List Int} (h : By l) {i : Int} {z : Int} (hz : idx l i = some z) : 0 ≤ z ∧ z ≤ 255 := by
  obtain ⟨h0, h1⟩ := idx_some hz
  exact h z (List.mem_of_getElem? h1)
theorem idx_ex {l : List Int} {i : Int} (h0 : 0 ≤ i) (h1 : i < (l.length : Int)) : ∃ z, idx l i = some z := ⟨_, idx_eq h0 h1⟩
theorem idx_set_ne {l : List Int} {i j : Int} (y : Int) (hi : 0 ≤ i) (hj : 0 ≤ j) (h : i ≠ j) : idx (List.set l i.toNat y) j = idx l j := by
  unfold idx
  rw [if_pos hj, if_pos hj, List.getElem?_set_ne (by omega)]
/-- a word is put -/
def pw (l : List Int) (i w : Int) : List Int := List.set (List.set l i.toNat (IntKind.wrap .u8 w)) (i + 1).toNat (IntKind.wrap .u8 (shrI .u16 w 8))
theorem pw_length (l : List Int) (i w : Int) : (pw l i w).length = l.length := by simp [pw]
theorem pw_idx {l : List Int} {i j w : Int} (hi : 0 ≤ i) (hj : i + 2 ≤ j) : idx (pw l i w) j = idx l j := by
  unfold pw
  rw [idx_set_ne _ (by omega) (by omega) (by omega), idx_set_ne _ (by omega) (by omega) (by omega)]
theorem add_eq {l : List Int} {i n a b : Int} (hl : l.length ≤ 12) (h0 : 0 ≤ i) (h1 : i + 1 < (l.length : Int)) (ha : idx l i = some a) (hb : idx l (i + 1) = some b) (ra : 0 ≤ a ∧ a ≤ 255) (rb : 0 ≤ b ∧ b ≤ 255) :
    apply_add l i n = some (pw l i (IntKind.wrap .u16 (a + 256 * b + n))) := by
  unfold apply_add
  have e1 : IntKind.wrap .i64 (i + 1) = i + 1 := wrap64 (by omega) (by omega)
  rw [e1, ha, Option.bind_some, hb, Option.bind_some, Option.bind_some, wrapu16 (n := a) (by omega) (by omega), wrapu16 (n := b) (by omega) (by omega), or8 ra rb, idx_set_ne _ h0 (by omega) (by omega), hb, Option.bind_some]
  rfl
theorem word_eq {l : List Int} {i a b : Int} (hl : l.length ≤ 12) (h0 : 0 ≤ i) (h1 : i + 1 < (l.length : Int)) (ha : idx l i = some a) (hb : idx l (i + 1) = some b) (ra : 0 ≤ a ∧ a ≤ 255) (rb : 0 ≤ b ∧ b ≤ 255) :
    hansomlaw42_word2 l i = some (a + 256 * b) := by
  unfold hansomlaw42_word2
  have e1 : IntKind.wrap .i64 (i + 1) = i + 1 := wrap64 (by omega) (by omega)
  rw [if_neg (by simpa using h0), e1, if_neg (by simp only [ge_iff_le, decide_eq_true_eq]; omega), ha, Option.bind_some, hb, Option.bind_some, wrapu16 (n := a) (by omega) (by omega), wrapu16 (n := b) (by omega) (by omega),
    wrapu16 (n := 256 * b) (by omega) (by omega), wrapu16 (by omega) (by omega)]
theorem word_some {l : List Int} {i : Int} (hl : l.length ≤ 12) (hB : By l) (h0 : 0 ≤ i) (h1 : i < (l.length : Int)) : ∃ w, hansomlaw42_word2 l i = some w := by
  by_cases h : i + 1 < (l.length : Int)
  · obtain ⟨a, ha⟩ := idx_ex h0 h1
    obtain ⟨b, hb⟩ := idx_ex (l := l) (i := i + 1) (by omega) h
    exact ⟨_, word_eq hl h0 h ha hb (hB.get ha) (hB.get hb)⟩
  · unfold hansomlaw42_word2
    have e1 : IntKind.wrap .i64 (i + 1) = i + 1 := wrap64 (by omega) (by omega)
    rw [if_neg (by simpa using h0), e1, if_pos (by simp only [ge_iff_le, decide_eq_true_eq]; omega)]
    exact ⟨_, rfl⟩
theorem grow1 {l : List Int} (hl : l.length ≤ 12) : grow 1 ([] : List Int) l = some l := by
  rw [grow_eq (by simp; omega) (by simp; omega)]; rfl
theorem set_eq {l : List Int} {i w : Int} (hl : l.length ≤ 12) (h0 : 0 ≤ i) (h1 : i + 1 < (l.length : Int)) : hansomlaw42_set l i w = some (pw l i w) := by
  unfold hansomlaw42_set
  have e1 : IntKind.wrap .i64 (i + 1) = i + 1 := wrap64 (by omega) (by omega)
  rw [grow1 hl, Option.bind_some, if_pos (by simpa using h0), e1]
  unfold hansomlaw42_set_j7
  rw [if_pos (by simpa using h1)]
  obtain ⟨a, ha⟩ := idx_ex (l := l) h0 (by omega)
  obtain ⟨b, hb⟩ := idx_ex (l := l) (i := i + 1) (by omega) h1
  rw [ha, Option.bind_some, e1, idx_set_ne _ h0 (by omega) (by omega), hb, Option.bind_some]
  rfl

end Go.Es.App
