/- The law IterMost in plain Lean. No condition. -/
import Derived.Test.YtikbjljifgadmaaItmH
import Derived.KernelRfl
set_option linter.unusedVariables false
set_option linter.unusedSimpArgs false
set_option maxHeartbeats 4000000
set_option maxRecDepth 100000
namespace Go.Es.Itm
/-! ### blocks of one byte, or of one block -/
abbrev LF (t u : Int) : Block := ⟨t, [u], []⟩
abbrev ND (t : Int) (y : Block) : Block := ⟨t, [], [Block.d y]⟩
theorem i1 (y : Block) : idx ([Block.d y] : List D) 0 = some (Block.d y) := rfl
theorem may_deep (self : Block → Int → Option Bool) (x : Block) {e : Int} (he : e > 8) : iter_may_b self x e = some false := by
  unfold iter_may_b; rw [if_pos (by simpa using he)]
theorem may_lf (self : Block → Int → Option Bool) {t u e : Int} (he : e ≤ 8) (t0 : 1 ≤ t) : iter_may_b self (LF t u) e = some (decide (t ≤ 65535)) := by
  unfold iter_may_b
  rw [if_neg (by simp; omega), if_neg (by simp; omega)]
  by_cases c : t ≤ 65535
  · rw [if_neg (by simp; omega), if_neg (by simp), if_pos (by simp), if_pos (by simp)]
    simp [c]
  · rw [if_pos (by simp; omega)]
    simp [c]
theorem may_nd (self : Block → Int → Option Bool) {t e : Int} {y : Block} {b : Bool} (he : 0 ≤ e ∧ e ≤ 8) (t0 : 1 ≤ t) (t1 : t ≤ 65535) (h : self y (e + 1) = some b) : iter_may_b self (ND t y) e = some b := by
  unfold iter_may_b
  rw [if_neg (by simp; omega), if_neg (by simp; omega), if_neg (by simp; omega), if_neg (by simp), if_neg (by simp), if_neg (by simp)]
  rw [loopO_eq]
  have s0 : iter_may_l30 self e [Block.d y] (([Block.d y] : List D).length : Int) 0 = some (if b then .next 1 else .out (.inl false)) := by
    unfold iter_may_l30
    rw [if_pos (by simp), i1, Option.bind_some, ofD_d, Option.bind_some, wrap64 (n := e + 1) (by omega) (by omega), h, Option.bind_some]
    cases b <;> rfl
  rw [s0]
  cases b with
  | false => rfl
  | true =>
    simp only [if_true, Option.bind_some]
    rw [loopO_eq]
    unfold iter_may_l30
    rw [if_neg (by simp)]; rfl
theorem size_lf (self : Block → Option Int) {t u : Int} (t0 : 0 ≤ t) (t1 : t ≤ 70000) : iter_Size_b self (LF t u) = some (min t 65537) := by
  unfold iter_Size_b
  rw [loopO_eq]
  dsimp only
  unfold iter_Size_l8
  rw [if_neg (by simp)]
  simp only [Option.bind_some, List.length_cons, List.length_nil, mnI_eq, mxI_eq]
  rw [wrap64 (by omega) (by omega)]
  congr 1; omega
theorem size_nd (self : Block → Option Int) {t s : Int} {y : Block} (t0 : 1 ≤ t) (t1 : t ≤ 300) (s0 : 0 ≤ s) (s1 : s ≤ 300) (h : self y = some s) : iter_Size_b self (ND t y) = some (min (s * t) 65537) := by
  have hst : 0 ≤ s * t := Int.mul_nonneg s0 (by omega)
  have hst2 : s * t ≤ 300 * 300 := Int.mul_le_mul s1 t1 (by omega) (by omega)
  unfold iter_Size_b
  rw [loopO_eq]
  dsimp only
  have e0 : iter_Size_l8 self (ND t y) (([] : List Int).length : Int) [Block.d y] (([Block.d y] : List D).length : Int) 0 = some (.next (s, 1)) := by
    unfold iter_Size_l8
    rw [if_pos (by simp), i1, Option.bind_some, ofD_d, Option.bind_some, h, Option.bind_some, mnI_eq]
    simp only [List.length_nil]
    rw [wrap64 (n := ((0 : Nat) : Int) + s) (by omega) (by omega)]
    have : min (((0 : Nat) : Int) + s) 65537 = s := by omega
    rw [this]; rfl
  rw [e0]
  simp only [Option.bind_some]
  rw [loopO_eq]
  dsimp only
  unfold iter_Size_l8
  rw [if_neg (by simp)]
  simp only [Option.bind_some, mnI_eq, mxI_eq]
  have : min (max t 0) 65537 = t := by omega
  rw [this, wrap64 (by omega) (by omega)]
theorem put_lf (self : Block → Option (List Int)) {t u : Int} (t0 : 0 ≤ t) (t1 : t ≤ 65535) (hu : wfI .u8 u) : iter_Put_b self (LF t u) = some (le t 2 ++ (le 0 2 ++ [1, u])) := by
  unfold iter_Put_b
  dsimp only
  rw [wrapu16 t0 t1, index_Two_spec t0 t1, Option.bind_some, show IntKind.wrap .u16 ((([] : List D).length : Nat) : Int) = 0 from rfl, index_Two_spec (by omega) (by omega), Option.bind_some,
    grow_eq (by simp [le_length]) (by simp [le_length]), Option.bind_some, if_pos (by simp), name_spec _ (by simp [b2s_length]), Option.bind_some]
  have : enc (b2s [u]) = [1, u] := by
    unfold enc
    rw [s2b_b2s (by intro c hc; simp only [List.mem_singleton] at hc; subst hc; exact hu)]
    rfl
  rw [this, grow_eq (by simp [le_length]) (by simp [le_length]), Option.bind_some, List.append_assoc]
theorem put_nd (self : Block → Option (List Int)) {t : Int} {y : Block} {p : List Int} (t0 : 0 ≤ t) (t1 : t ≤ 65535) (hp : p.length ≤ 1000) (h : self y = some p) : iter_Put_b self (ND t y) = some (le t 2 ++ (le 1 2 ++ p)) := by
  unfold iter_Put_b
  dsimp only
  rw [wrapu16 t0 t1, index_Two_spec t0 t1, Option.bind_some, show IntKind.wrap .u16 ((([Block.d y] : List D).length : Nat) : Int) = 1 from rfl, index_Two_spec (by omega) (by omega), Option.bind_some,
    grow_eq (by simp [le_length]) (by simp [le_length]), Option.bind_some, if_neg (by simp)]
  rw [loopO_eq]
  dsimp only
  have e0 : iter_Put_l16 self (le t 2 ++ le 1 2) [Block.d y] (([Block.d y] : List D).length : Int) 0 = some (.next (le t 2 ++ le 1 2 ++ p, 1)) := by
    unfold iter_Put_l16
    rw [if_pos (by simp), i1, Option.bind_some, ofD_d, Option.bind_some, h, Option.bind_some, grow_eq (by simp [le_length]; omega) (by simp [le_length]; omega)]; rfl
  rw [e0]
  simp only [Option.bind_some]
  rw [loopO_eq]
  dsimp only
  unfold iter_Put_l16
  rw [if_neg (by simp)]
  simp only [Option.bind_some, List.append_assoc]
theorem le_1u (u : Int) (hu : wfI .u8 u) : enc (b2s [u]) = [1, u] := by
  unfold enc
  rw [s2b_b2s (by intro c hc; simp only [List.mem_singleton] at hc; subst hc; exact hu)]
  rfl
theorem take_lf (self : Source → Int → Option (Block × Source)) {t u e : Int} (he : e ≤ 8) (t0 : 0 ≤ t) (t1 : t ≤ 65535) (hu : wfI .u8 u) (r : List Int) : iter_take_b self ⟨le t 2 ++ (le 0 2 ++ [1, u]) ++ r, 0⟩ e = some (LF t u, ⟨r, 0⟩) := by
  unfold iter_take_b
  rw [List.append_assoc, word_le t0 t1, Option.bind_some, List.append_assoc]
  dsimp only
  rw [word_le (by omega) (by omega), Option.bind_some, if_neg (by simp; omega)]
  dsimp only
  rw [show IntKind.wrap .i64 0 = 0 from rfl, wrap64 (n := t) (by omega) (by omega)]
  unfold iter_take_j12
  rw [if_pos (by simp), ← le_1u u hu, enc_name _ (by simp [b2s_length]), Option.bind_some]
  dsimp only
  rw [s2b_b2s (by intro c hc; simp only [List.mem_singleton] at hc; subst hc; exact hu)]
theorem wrong8 (b : List Int) : index_Source_Wrong ⟨b, 0⟩ 8 = some ⟨[], 8⟩ := by
  unfold index_Source_Wrong; rfl
theorem name8 : index_Source_Name ⟨[], 8⟩ = some ([], ⟨[], 8⟩) := by
  unfold index_Source_Name index_Source_Byte index_Source_Take index_Source_Wrong
  rfl
theorem take_lf_deep (self : Source → Int → Option (Block × Source)) {t u e : Int} (he : e > 8) (t0 : 0 ≤ t) (t1 : t ≤ 65535) (r : List Int) : ∃ y, iter_take_b self ⟨le t 2 ++ (le 0 2 ++ [1, u]) ++ r, 0⟩ e = some (y, ⟨[], 8⟩) := by
  unfold iter_take_b
  rw [List.append_assoc, word_le t0 t1, Option.bind_some, List.append_assoc]
  dsimp only
  rw [word_le (by omega) (by omega), Option.bind_some, if_pos (by simpa using he)]
  dsimp only
  rw [wrong8, Option.bind_some, show IntKind.wrap .i64 0 = 0 from rfl]
  unfold iter_take_j12
  rw [if_pos (by simp), name8]
  exact ⟨_, rfl⟩
theorem take_nd_deep (self : Source → Int → Option (Block × Source)) {t e : Int} (he : e > 8) (t0 : 0 ≤ t) (t1 : t ≤ 65535) (r : List Int) : ∃ y, iter_take_b self ⟨le t 2 ++ (le 1 2 ++ r), 0⟩ e = some (y, ⟨[], 8⟩) := by
  unfold iter_take_b
  rw [word_le t0 t1, Option.bind_some]
  dsimp only
  rw [word_le (by omega) (by omega), Option.bind_some, if_pos (by simpa using he)]
  dsimp only
  rw [wrong8, Option.bind_some, show IntKind.wrap .i64 1 = 1 from rfl]
  unfold iter_take_j12
  rw [if_neg (by simp)]
  rw [loopO_eq]
  dsimp only
  unfold iter_take_l26
  rw [if_pos (by decide), err_spec, Option.bind_some, if_pos (by rfl)]
  exact ⟨_, rfl⟩
theorem take_nd (self : Source → Int → Option (Block × Source)) {t e : Int} {y : Block} {s : Source} (he : 0 ≤ e ∧ e ≤ 8) (t0 : 0 ≤ t) (t1 : t ≤ 65535) (r : List Int) (h : self ⟨r, 0⟩ (e + 1) = some (y, s)) :
    iter_take_b self ⟨le t 2 ++ (le 1 2 ++ r), 0⟩ e = some (ND t y, s) := by
  unfold iter_take_b
  rw [word_le t0 t1, Option.bind_some]
  dsimp only
  rw [word_le (by omega) (by omega), Option.bind_some, if_neg (by simp; omega)]
  dsimp only
  rw [show IntKind.wrap .i64 1 = 1 from rfl, wrap64 (n := t) (by omega) (by omega)]
  unfold iter_take_j12
  rw [if_neg (by simp)]
  rw [loopO_eq]
  dsimp only
  have e0 : iter_take_l26 self ⟨r, 0⟩ [] 0 t e 1 0 = some (.next (s, [Block.d y], 1)) := by
    unfold iter_take_l26
    rw [if_pos (by decide), err_spec, Option.bind_some, if_neg (by simp), wrap64 (n := e + 1) (by omega) (by omega), h, Option.bind_some, grow_eq (by simp) (by simp)]; rfl
  rw [e0]
  simp only [Option.bind_some]
  rw [loopO_eq]
  dsimp only
  unfold iter_take_l26
  rw [if_neg (by decide)]
  rfl
theorem spread_lf (self : Block → Option (List Int × Bool)) {t u : Int} (t0 : 1 ≤ t) (t1 : t ≤ 70000) : iter_Spread_b self (LF t u) = some (if t ≤ 65535 then (rep t.toNat [u], true) else ([], false)) := by
  unfold iter_Spread_b
  have hm : iter_May (LF t u) = some (decide (t ≤ 65535)) := by
    unfold iter_May
    rw [show iter_may 64 (LF t u) 1 = iter_may_b (iter_may 63) (LF t u) 1 from rfl, may_lf _ (by omega) t0]; rfl
  rw [hm, Option.bind_some]
  by_cases c : t ≤ 65535
  · rw [if_neg (by simp [c]), show iter_Size 64 (LF t u) = iter_Size_b (iter_Size 63) (LF t u) from rfl, size_lf _ (by omega) t1, Option.bind_some, if_neg (by simp; omega), clone_spec (by simp), Option.bind_some]
    rw [loopO_eq]
    dsimp only
    unfold iter_Spread_l16
    rw [if_neg (by simp)]
    simp only [Option.bind_some]
    have := repeat_spec (x := [u]) (t := t.toNat) (by simp) (by omega) (by simp; omega)
    rw [Int.toNat_of_nonneg (by omega)] at this
    rw [this, if_pos c]; rfl
  · rw [if_pos (by simp [c]), if_neg c]
/-! ### deep blocks -/
def DB : Nat → Block
  | 0 => LF 1 97
  | n + 1 => ND 1 (DB n)
def PB : Nat → List Int
  | 0 => le 1 2 ++ (le 0 2 ++ [1, 97])
  | n + 1 => le 1 2 ++ (le 1 2 ++ PB n)
theorem PB_len (n : Nat) : (PB n).length = 6 + 4 * n := by
  induction n with
  | zero => rfl
  | succ n ih => simp only [PB, List.length_append, le_length, ih]; omega
theorem PB_wf (n : Nat) : ∀ c ∈ PB n, wfI .u8 c := by
  induction n with
  | zero =>
    intro c hc
    simp only [PB, List.mem_append] at hc
    rcases hc with hc | hc | hc
    · exact le_wf _ _ c hc
    · exact le_wf _ _ c hc
    · simp only [List.mem_cons, List.not_mem_nil, or_false] at hc
      rcases hc with rfl | rfl <;> exact wfI_u8.2 ⟨by omega, by omega⟩
  | succ n ih =>
    intro c hc
    simp only [PB, List.mem_append] at hc
    rcases hc with hc | hc | hc
    · exact le_wf _ _ c hc
    · exact le_wf _ _ c hc
    · exact ih c hc
theorem DB_may : ∀ (n k : Nat) (e : Int), n < k → 0 ≤ e → e ≤ 100 → iter_may k (DB n) e = some (decide (e + n ≤ 8)) := by
  intro n
  induction n with
  | zero =>
    intro k e hk he _
    obtain ⟨k, rfl⟩ : ∃ j, k = j + 1 := ⟨k - 1, by omega⟩
    show iter_may_b (iter_may k) (LF 1 97) e = _
    by_cases c : e ≤ 8
    · rw [may_lf _ c (by omega)]; simp [c]
    · rw [may_deep _ _ (by omega)]; simp [c]
  | succ n ih =>
    intro k e hk he h1
    obtain ⟨k, rfl⟩ : ∃ j, k = j + 1 := ⟨k - 1, by omega⟩
    show iter_may_b (iter_may k) (ND 1 (DB n)) e = _
    by_cases c : e ≤ 8
    · rw [may_nd _ ⟨he, c⟩ (by omega) (by omega) (ih k (e + 1) (by omega) (by omega) (by omega))]
      congr 1; rw [decide_eq_decide]; omega
    · rw [may_deep _ _ (by omega)]
      congr 1; symm; rw [decide_eq_false_iff_not]; omega
theorem DB_size : ∀ (n k : Nat), n < k → iter_Size k (DB n) = some 1 := by
  intro n
  induction n with
  | zero =>
    intro k hk
    obtain ⟨k, rfl⟩ : ∃ j, k = j + 1 := ⟨k - 1, by omega⟩
    exact size_lf (iter_Size k) (t := 1) (u := 97) (by omega) (by omega)
  | succ n ih =>
    intro k hk
    obtain ⟨k, rfl⟩ : ∃ j, k = j + 1 := ⟨k - 1, by omega⟩
    exact size_nd (iter_Size k) (t := 1) (s := 1) (by omega) (by omega) (by omega) (by omega) (ih k (by omega))
theorem DB_put : ∀ (n k : Nat), n < k → n ≤ 100 → iter_Put k (DB n) = some (PB n) := by
  intro n
  induction n with
  | zero =>
    intro k hk _
    obtain ⟨k, rfl⟩ : ∃ j, k = j + 1 := ⟨k - 1, by omega⟩
    exact put_lf (iter_Put k) (t := 1) (u := 97) (by omega) (by omega) (wfI_u8.2 ⟨by omega, by omega⟩)
  | succ n ih =>
    intro k hk h1
    obtain ⟨k, rfl⟩ : ∃ j, k = j + 1 := ⟨k - 1, by omega⟩
    exact put_nd (iter_Put k) (t := 1) (by omega) (by omega) (by rw [PB_len]; omega) (ih k (by omega) (by omega))
theorem DB_take : ∀ (n k : Nat) (e : Int) (r : List Int), n < k → 0 ≤ e → e + n ≤ 8 → iter_take k ⟨PB n ++ r, 0⟩ e = some (DB n, ⟨r, 0⟩) := by
  intro n
  induction n with
  | zero =>
    intro k e r hk he h
    obtain ⟨k, rfl⟩ : ∃ j, k = j + 1 := ⟨k - 1, by omega⟩
    exact take_lf (iter_take k) (by omega) (by omega) (by omega) (wfI_u8.2 ⟨by omega, by omega⟩) r
  | succ n ih =>
    intro k e r hk he h
    obtain ⟨k, rfl⟩ : ∃ j, k = j + 1 := ⟨k - 1, by omega⟩
    show iter_take_b (iter_take k) ⟨le 1 2 ++ (le 1 2 ++ PB n) ++ r, 0⟩ e = _
    rw [List.append_assoc, List.append_assoc]
    exact take_nd (iter_take k) ⟨he, by omega⟩ (by omega) (by omega) _ (ih k (e + 1) r (by omega) (by omega) (by omega))
theorem DB_take_deep : ∀ (n k : Nat) (e : Int) (r : List Int), n < k → 0 ≤ e → ¬ e + n ≤ 8 → ∃ y, iter_take k ⟨PB n ++ r, 0⟩ e = some (y, ⟨[], 8⟩) := by
  intro n
  induction n with
  | zero =>
    intro k e r hk he h
    obtain ⟨k, rfl⟩ : ∃ j, k = j + 1 := ⟨k - 1, by omega⟩
    exact take_lf_deep (iter_take k) (by omega) (by omega) (by omega) r
  | succ n ih =>
    intro k e r hk he h
    obtain ⟨k, rfl⟩ : ∃ j, k = j + 1 := ⟨k - 1, by omega⟩
    show ∃ y, iter_take_b (iter_take k) ⟨le 1 2 ++ (le 1 2 ++ PB n) ++ r, 0⟩ e = _
    rw [List.append_assoc, List.append_assoc]
    by_cases c : e ≤ 8
    · obtain ⟨y, hy⟩ := ih k (e + 1) r (by omega) (by omega) (by omega)
      exact ⟨_, take_nd (iter_take k) ⟨he, c⟩ (by omega) (by omega) _ hy⟩
    · exact take_nd_deep (iter_take k) (by omega) (by omega) (by omega) _
theorem DB_May (n : Nat) (hn : n < 60) : iter_May (DB n) = some (decide ((n : Int) ≤ 7)) := by
  unfold iter_May
  rw [DB_may n 64 1 (by omega) (by omega) (by omega)]
  show some (decide (1 + (n : Int) ≤ 8)) = _
  congr 1; rw [decide_eq_decide]; omega
theorem DB_spread : ∀ (n k : Nat), n < k → n ≤ 7 → iter_Spread k (DB n) = some ([97], true) := by
  intro n
  induction n with
  | zero =>
    intro k hk _
    obtain ⟨k, rfl⟩ : ∃ j, k = j + 1 := ⟨k - 1, by omega⟩
    exact spread_lf (iter_Spread k) (t := 1) (u := 97) (by omega) (by omega)
  | succ n ih =>
    intro k hk h7
    obtain ⟨k, rfl⟩ : ∃ j, k = j + 1 := ⟨k - 1, by omega⟩
    show iter_Spread_b (iter_Spread k) (DB (n + 1)) = _
    unfold iter_Spread_b
    rw [DB_May _ (by omega), Option.bind_some, if_neg (by simp; omega), DB_size _ _ (by omega), Option.bind_some, if_neg (by decide)]
    show (slices_Clone_Lbyte []).bind _ = _
    rw [clone_spec (by simp), Option.bind_some]
    show (loopO (fun x : ((List Int) × Int) => iter_Spread_l16 (iter_Spread k) (DB (n + 1)) x.1 [Block.d (DB n)] 1 x.2) ([], 0)).bind _ = _
    rw [loopO_eq]
    dsimp only
    have e0 : iter_Spread_l16 (iter_Spread k) (DB (n + 1)) [] [Block.d (DB n)] 1 0 = some (.next ([97], 1)) := by
      unfold iter_Spread_l16
      rw [if_pos (by decide), i1, Option.bind_some, ofD_d, Option.bind_some, ih k (by omega) (by omega), Option.bind_some, grow_eq (by simp) (by simp)]; rfl
    rw [e0]
    simp only [Option.bind_some]
    rw [loopO_eq]
    dsimp only
    have e1 : iter_Spread_l16 (iter_Spread k) (DB (n + 1)) [97] [Block.d (DB n)] 1 1 = some (.out [97]) := by
      unfold iter_Spread_l16
      rw [if_neg (by decide)]
    rw [e1]
    simp only [Option.bind_some]
    have := repeat_spec (x := [97]) (t := 1) (by simp) (by omega) (by simp)
    rw [show (DB (n + 1)).Times = ((1 : Nat) : Int) from rfl, this]; rfl
theorem and_mask' {x : Int} {m : Int} (j : Nat) (hj : j ≤ 62) (hm : m = ((2 ^ j - 1 : Nat) : Int)) : bitsOp .and .i64 x m = x % (2 ^ j : Nat) := by
  subst hm; exact and_mask x j hj
theorem record_one {of : Int} (o0 : 0 ≤ of) (o1 : of ≤ 65535) {x : Block} {p : List Int} (hp : iter_Put 64 x = some p) (hl : p.length ≤ 1000) : iter_Record 1 of [Block.d x] = some ⟨162, ix 1 ++ (le of 2 ++ p)⟩ := by
  have hil := ix_len 1
  unfold iter_Record
  rw [index_Put_spec, Option.bind_some, index_Two_spec o0 o1, Option.bind_some, grow_eq (by rw [le_length]; omega) (by rw [le_length]; omega), Option.bind_some]
  rw [loopO_eq]
  dsimp only
  have e0 : iter_Record_l8 (ix 1 ++ le of 2) 0 [Block.d x] (([Block.d x] : List D).length : Int) 0 = some (.next (ix 1 ++ le of 2 ++ p, 1)) := by
    unfold iter_Record_l8
    rw [if_pos (by simp), i1, Option.bind_some, ofD_d, Option.bind_some, hp, Option.bind_some, grow_eq (by simp only [List.length_append, le_length]; omega) (by simp only [List.length_append, le_length]; omega)]; rfl
  rw [e0]
  simp only [Option.bind_some]
  rw [loopO_eq]
  dsimp only
  unfold iter_Record_l8
  rw [if_neg (by simp)]
  simp only [Option.bind_some, List.append_assoc]
/-- what is got of a record of one block -/
theorem get_one {of : Int} (o0 : 0 ≤ of) (o1 : of ≤ 65535) {p acc : List Int} {e : Int} (hw : ∀ c ∈ p, wfI .u8 c) (hl : p.length ≤ 1000) (h : loopO (gl 1 of) (⟨p, 0⟩, []) = some (acc, ⟨[], e⟩)) :
    iter_Get (ix 1 ++ (le of 2 ++ p)) = some (if e ≠ 0 then (⟨0, 0, [], []⟩, e) else if (1 : Int) < 1 ∨ acc = [] then (⟨0, 0, [], []⟩, 3) else (⟨1, of, acc, []⟩, 0)) :=
  get_head (by omega) (by omega) o0 o1 p hw (by omega) h (.inr rfl)
/-- a block that is taken, and spread -/
theorem gl_ok {of : Int} (o0 : 0 ≤ of) (o1 : of ≤ 65535) {p y : List Int} {x : Block} (hp : 0 < p.length) (hl : p.length ≤ 1000) (ht : iter_take 64 ⟨p, 0⟩ 1 = some (x, ⟨[], 0⟩)) (hm : iter_May x = some true) (hs : iter_Spread 64 x = some (y, true)) (hy : y.length ≤ 65535) :
    loopO (gl 1 of) (⟨p, 0⟩, []) = some (y, ⟨[], if (y.length : Int) > 65536 - of then 8 else 0⟩) := by
  rw [loopO_eq]
  have hstep : gl 1 of (⟨p, 0⟩, []) = some (.next (⟨[], if (y.length : Int) > 65536 - of then 8 else 0⟩, y)) := by
    unfold gl iter_Get_l8
    dsimp only
    rw [left_spec, Option.bind_some, if_pos (by simp; omega), ht, Option.bind_some, err_spec, Option.bind_some, if_neg (by simp), hs, Option.bind_some, hm, Option.bind_some, if_neg (by simp), if_neg (by simp)]
    dsimp only
    rw [wrap64 (n := of) (by omega) (by omega), wrap64 (n := 65536 - of) (by omega) (by omega), wrap64 (n := ((([] : List Int).length : Nat) : Int) + (y.length : Int)) (by simp only [List.length_nil]; omega) (by simp only [List.length_nil]; omega)]
    have hg : grow 1 ([] : List Int) y = some y := by rw [grow_eq (by simp; omega) (by simp; omega)]; rfl
    by_cases c : (y.length : Int) > 65536 - of
    · rw [if_pos (by simpa using c), wrong8, Option.bind_some, hg, if_pos c]; rfl
    · rw [if_neg (by simpa using c), hg, if_neg c]; rfl
  rw [hstep]
  exact gl_end y _
theorem gl_no {of : Int} {p : List Int} {x : Block} (hp : 0 < p.length) (ht : iter_take 64 ⟨p, 0⟩ 1 = some (x, ⟨[], 0⟩)) (hm : iter_May x = some true) (hs : iter_Spread 64 x = some ([], false)) :
    loopO (gl 1 of) (⟨p, 0⟩, []) = some ([], ⟨[], 8⟩) := by
  rw [loopO_eq]
  have hstep : gl 1 of (⟨p, 0⟩, []) = some (.next (⟨[], 8⟩, [])) := by
    unfold gl iter_Get_l8
    dsimp only
    rw [left_spec, Option.bind_some, if_pos (by simp; omega), ht, Option.bind_some, err_spec, Option.bind_some, if_neg (by simp), hs, Option.bind_some, hm, Option.bind_some, if_neg (by simp), if_pos (by simp), wrong8, Option.bind_some, grow_eq (by simp) (by simp)]
    rfl
  rw [hstep]
  exact gl_end [] _
theorem gl_deep {of : Int} {p : List Int} {x : Block} (hp : 0 < p.length) (ht : iter_take 64 ⟨p, 0⟩ 1 = some (x, ⟨[], 8⟩)) : loopO (gl 1 of) (⟨p, 0⟩, []) = some ([], ⟨[], 8⟩) := by
  rw [loopO_eq]
  have hstep : gl 1 of (⟨p, 0⟩, []) = some (.out ([], ⟨[], 8⟩)) := by
    unfold gl iter_Get_l8
    dsimp only
    rw [left_spec, Option.bind_some, if_pos (by simp; omega), ht, Option.bind_some, err_spec, Option.bind_some, if_pos (by rfl)]
  rw [hstep]; rfl
theorem deeps_eq : ∀ n : Nat, n < 16 → hansomlaw24_deeps ((n : Int) + 1) = some (DB n) := by
  intro n hn
  match n, hn with
  | 0, _ => rfl
  | 1, _ => rfl
  | 2, _ => rfl
  | 3, _ => rfl
  | 4, _ => rfl
  | 5, _ => rfl
  | 6, _ => rfl
  | 7, _ => rfl
  | 8, _ => rfl
  | 9, _ => rfl
  | 10, _ => rfl
  | 11, _ => rfl
  | 12, _ => rfl
  | 13, _ => rfl
  | 14, _ => rfl
  | 15, _ => rfl
  | n + 16, h => omega
abbrev T2 : Block := ND 256 (LF 257 99)
theorem T2_size : iter_Size 64 T2 = some 65537 := by
  have h := size_nd (iter_Size 63) (t := 256) (s := 257) (y := LF 257 99) (by omega) (by omega) (by omega) (by omega) (size_lf (iter_Size 62) (t := 257) (u := 99) (by omega) (by omega))
  exact h
theorem T2_may : iter_May T2 = some true := by
  unfold iter_May
  have h := may_nd (iter_may 63) (t := 256) (e := 1) (y := LF 257 99) (b := true) (by omega) (by omega) (by omega) (may_lf (iter_may 62) (t := 257) (u := 99) (e := 2) (by omega) (by omega))
  rw [show iter_may 64 T2 1 = some true from h]; rfl
theorem T2_spread : iter_Spread 64 T2 = some ([], false) := by
  show iter_Spread_b (iter_Spread 63) T2 = _
  unfold iter_Spread_b
  rw [T2_may, Option.bind_some, if_neg (by simp), T2_size, Option.bind_some, if_pos (by decide)]
theorem u99 : wfI .u8 99 := wfI_u8.2 ⟨by omega, by omega⟩
abbrev P2 : List Int := le 256 2 ++ (le 1 2 ++ (le 257 2 ++ (le 0 2 ++ [1, 99])))
theorem T2_put : iter_Put 64 T2 = some P2 := put_nd (iter_Put 63) (t := 256) (by omega) (by omega) (by simp [le_length]) (put_lf (iter_Put 62) (t := 257) (u := 99) (by omega) (by omega) u99)
theorem T2_take : iter_take 64 ⟨P2, 0⟩ 1 = some (T2, ⟨[], 0⟩) := by
  have h := take_lf (iter_take 62) (t := 257) (u := 99) (e := 2) (by omega) (by omega) (by omega) u99 []
  rw [List.append_nil] at h
  exact take_nd (iter_take 63) (t := 256) (e := 1) (by omega) (by omega) (by omega) _ h
theorem P_wf : ∀ (l : List Int), (∀ c ∈ l, wfI .u8 c) → True := fun _ _ => trivial
theorem P2_wf : ∀ c ∈ P2, wfI .u8 c := by
  intro c hc
  simp only [P2, List.mem_append] at hc
  rcases hc with hc | hc | hc | hc | hc
  · exact le_wf _ _ c hc
  · exact le_wf _ _ c hc
  · exact le_wf _ _ c hc
  · exact le_wf _ _ c hc
  · simp only [List.mem_cons, List.not_mem_nil, or_false] at hc
    rcases hc with rfl | rfl <;> exact wfI_u8.2 ⟨by omega, by omega⟩
abbrev S17 : Block := LF 17 99
abbrev P17 : List Int := le 17 2 ++ (le 0 2 ++ [1, 99])
theorem P17_wf : ∀ c ∈ P17, wfI .u8 c := by
  intro c hc
  simp only [P17, List.mem_append] at hc
  rcases hc with hc | hc | hc
  · exact le_wf _ _ c hc
  · exact le_wf _ _ c hc
  · simp only [List.mem_cons, List.not_mem_nil, or_false] at hc
    rcases hc with rfl | rfl <;> exact wfI_u8.2 ⟨by omega, by omega⟩
theorem iterMost_true (n times : Int) (w0 : wfI .i64 n) (w1 : wfI .i64 times) : hansomlaw24_IterMost n times = some true := by
  unfold hansomlaw24_IterMost
  have h15 : bitsOp .and .i64 n 15 = n % 16 := and_mask' 4 (by omega) rfl
  have t15 : bitsOp .and .i64 times 15 = times % 16 := and_mask' 4 (by omega) rfl
  have t63 : bitsOp .and .i64 times 63 = times % 64 := and_mask' 6 (by omega) rfl
  rw [h15, t15, t63, wrap64 (n := n % 16 + 1) (by omega) (by omega), wrap64 (n := 65500 + times % 64) (by omega) (by omega), wrap64 (n := 65535 - times % 16) (by omega) (by omega), wrapu16 (n := 65535 - times % 16) (by omega) (by omega)]
  obtain ⟨k, hk⟩ := Int.eq_ofNat_of_zero_le (show 0 ≤ n % 16 by omega)
  rw [hk]
  have hk16 : k < 16 := by omega
  -- the deep one
  have hr := record_one (of := 0) (by omega) (by omega) (DB_put k 64 (by omega) (by omega)) (by rw [PB_len]; omega)
  have hg : iter_Get (ix 1 ++ (le 0 2 ++ PB k)) = some (if (k : Int) ≤ 7 then (⟨1, 0, [97], []⟩, 0) else (⟨0, 0, [], []⟩, 8)) := by
    by_cases c : (k : Int) ≤ 7
    · have ht := DB_take k 64 1 [] (by omega) (by omega) (by omega)
      rw [List.append_nil] at ht
      have hm := DB_May k (by omega)
      rw [decide_eq_true c] at hm
      have hl := gl_ok (of := 0) (by omega) (by omega) (by rw [PB_len]; omega) (by rw [PB_len]; omega) ht hm (DB_spread k 64 (by omega) (by omega)) (by simp)
      rw [if_neg (by simp)] at hl
      rw [get_one (by omega) (by omega) (PB_wf k) (by rw [PB_len]; omega) hl, if_pos c]; rfl
    · obtain ⟨y, ht⟩ := DB_take_deep k 64 1 [] (by omega) (by omega) (by omega)
      rw [List.append_nil] at ht
      have hl := gl_deep (of := 0) (by rw [PB_len]; omega) ht
      rw [get_one (by omega) (by omega) (PB_wf k) (by rw [PB_len]; omega) hl, if_neg c]; rfl
  -- the long one
  have hsp : iter_Spread 64 (LF (65500 + times % 64) 98) = _ := spread_lf (iter_Spread 63) (u := 98) (by omega) (by omega)
  -- two
  have hr2 := record_one (of := 0) (by omega) (by omega) T2_put (by simp [le_length])
  have hl2 := gl_no (of := 0) (by simp [le_length]) T2_take T2_may T2_spread
  have hg2 := get_one (of := 0) (by omega) (by omega) P2_wf (by simp [le_length]) hl2
  rw [if_pos (by decide)] at hg2
  -- seventeen
  have hr3 := record_one (of := 65535 - times % 16) (x := S17) (p := P17) (by omega) (by omega) (put_lf (iter_Put 63) (t := 17) (u := 99) (by omega) (by omega) u99) (by simp [le_length])
  have ht3 : iter_take 64 ⟨P17, 0⟩ 1 = some (S17, ⟨[], 0⟩) := by
    have h := take_lf (iter_take 63) (t := 17) (u := 99) (e := 1) (by omega) (by omega) (by omega) u99 []
    rw [List.append_nil] at h
    exact h
  have hm3 : iter_May S17 = some true := by
    unfold iter_May
    have h := may_lf (iter_may 63) (t := 17) (u := 99) (e := 1) (by omega) (by omega)
    rw [show iter_may 64 S17 1 = some true from h]; rfl
  have hs3 : iter_Spread 64 S17 = some (rep 17 [99], true) := by
    have h := spread_lf (iter_Spread 63) (t := 17) (u := 99) (by omega) (by omega)
    exact h
  have hl3 := gl_ok (of := 65535 - times % 16) (by omega) (by omega) (by simp [le_length]) (by simp [le_length]) ht3 hm3 hs3 (by simp [rep_len])
  rw [if_pos (by simp [rep_len]; omega)] at hl3
  have hg3 := get_one (of := 65535 - times % 16) (by omega) (by omega) P17_wf (by simp [le_length]) hl3
  rw [if_pos (by decide)] at hg3
  have awk : hansomlaw24_awake = some true := rfl
  have m1 : iter_May ({ Times := 1, Bytes := ([] : List Int), Blocks := ([] : List D) } : Block) = some false := rfl
  have m2 : iter_May ({ Times := 0, Bytes := ([1] : List Int), Blocks := ([] : List D) } : Block) = some false := rfl
  rw [deeps_eq k hk16, Option.bind_some, hr, Option.bind_some]
  dsimp only
  rw [hg, Option.bind_some, hsp, Option.bind_some, T2_spread, Option.bind_some, hr2, Option.bind_some]
  dsimp only
  rw [hg2, Option.bind_some, hr3, Option.bind_some]
  dsimp only
  rw [hg3, Option.bind_some, awk, Option.bind_some, if_pos rfl, DB_May k (by omega), Option.bind_some]
  have hd : (decide ((k : Int) ≤ 7) == decide ((k : Int) + 1 ≤ 8)) = true := by
    rw [beq_iff_eq, decide_eq_decide]; omega
  rw [if_pos hd, T2_size, m1, m2]
  by_cases c : (k : Int) ≤ 7
  · rw [if_pos c]
    have hd2 : decide ((k : Int) + 1 ≤ 8) = true := by simp; omega
    rw [hd2]
    by_cases d : 65500 + times % 64 ≤ 65535
    · rw [if_pos d]
      have hl : (((rep (65500 + times % 64).toNat ([98] : List Int)).length : Int) == 65500 + times % 64) = true := by
        rw [rep_len]; simp; omega
      simp only [d, decide_true, beq_self_eq_true, if_true, Bool.not_true, Bool.false_eq_true, if_false, hl, Bool.not_false, Option.bind_some]
      rfl
    · rw [if_neg d]
      simp only [d, decide_false, beq_self_eq_true, if_true, Bool.not_true, Bool.false_eq_true, if_false, Bool.not_false, Option.bind_some]
      rfl
  · rw [if_neg c]
    have hd2 : decide ((k : Int) + 1 ≤ 8) = false := by simp; omega
    rw [hd2]
    by_cases d : 65500 + times % 64 ≤ 65535
    · rw [if_pos d]
      have hl : (((rep (65500 + times % 64).toNat ([98] : List Int)).length : Int) == 65500 + times % 64) = true := by
        rw [rep_len]; simp; omega
      simp only [d, decide_true, beq_self_eq_true, if_true, Bool.not_true, Bool.false_eq_true, if_false, hl, Bool.not_false, Option.bind_some]
      rfl
    · rw [if_neg d]
      simp only [d, decide_false, beq_self_eq_true, if_true, Bool.not_true, Bool.false_eq_true, if_false, Bool.not_false, Option.bind_some]
      rfl
end Go.Es.Itm
