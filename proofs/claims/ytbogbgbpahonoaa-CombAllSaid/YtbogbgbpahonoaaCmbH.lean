/- What the functions answer, in plain Lean. No condition. -/
import Derived.Test.YtbogbgbpahonoaaCmbP
set_option linter.unusedVariables false
set_option linter.unusedSimpArgs false
set_option maxHeartbeats 1000000
namespace Go.Es.Cmb
def up (n s : Int) : Int := (n + s - 1) / s * s
def stepOf (a : Int) : Int := if a = 2 then 2 else if a = 3 then 16 else if a = 4 then 256 else 1

theorem andNot_mask (x : Int) (j : Nat) (hj : j ≤ 62) (h0 : 0 ≤ x) (h1 : x ≤ 4611686018427387904) : bitsOp .andNot .i64 x ((2 ^ j - 1 : Nat) : Int) = x - x % (2 ^ j : Nat) := by
  have hp : 2 ^ j ≤ 2 ^ 62 := Nat.pow_le_pow_right (by omega) hj
  have hpos : 0 < 2 ^ j := Nat.two_pow_pos j
  obtain ⟨n, rfl⟩ : ∃ n : Nat, x = n := ⟨x.toNat, by omega⟩
  have e0 : (BitVec.ofInt 64 (n : Int)).toNat = n := by rw [BitVec.toNat_ofInt]; omega
  have e1 : (BitVec.ofInt 64 ((2 ^ j - 1 : Nat) : Int)).toNat = 2 ^ j - 1 := by rw [BitVec.toNat_ofInt]; omega
  have e3 : BitVec.ofInt 64 (n : Int) &&& ~~~(BitVec.ofInt 64 ((2 ^ j - 1 : Nat) : Int)) = BitVec.ofInt 64 (n : Int) - (BitVec.ofInt 64 (n : Int) &&& BitVec.ofInt 64 ((2 ^ j - 1 : Nat) : Int)) := by
    generalize BitVec.ofInt 64 (n : Int) = a
    generalize BitVec.ofInt 64 ((2 ^ j - 1 : Nat) : Int) = b
    have h : (a &&& ~~~b) + (a &&& b) = a := by
      rw [BitVec.add_eq_or_of_and_eq_zero]
      · ext i hi; simp only [BitVec.getElem_or, BitVec.getElem_and, BitVec.getElem_not]; cases a[i] <;> cases b[i] <;> rfl
      · ext i hi; simp only [BitVec.getElem_and, BitVec.getElem_not, BitVec.getElem_zero]; cases a[i] <;> cases b[i] <;> rfl
    exact BitVec.eq_sub_iff_add_eq.2 h
  have e2 : (BitVec.ofInt 64 (n : Int) &&& BitVec.ofInt 64 ((2 ^ j - 1 : Nat) : Int)).toNat = n % 2 ^ j := by
    rw [BitVec.toNat_and, e0, e1, Nat.and_two_pow_sub_one_eq_mod]
  have hm : n % 2 ^ j ≤ n := Nat.mod_le _ _
  have h5 : bitsOp .andNot .i64 (n : Int) ((2 ^ j - 1 : Nat) : Int) = IntKind.wrap .i64 (((BitVec.ofInt 64 (n : Int) &&& ~~~(BitVec.ofInt 64 ((2 ^ j - 1 : Nat) : Int))).toNat : Nat) : Int) := rfl
  have e4 : (BitVec.ofInt 64 (n : Int) - (BitVec.ofInt 64 (n : Int) &&& BitVec.ofInt 64 ((2 ^ j - 1 : Nat) : Int))).toNat = n - n % 2 ^ j := by
    rw [BitVec.toNat_sub, e0, e2]; omega
  rw [h5, e3, e4, wrap64 (by omega) (by omega)]
  have : ((n % 2 ^ j : Nat) : Int) = (n : Int) % (2 ^ j : Nat) := Int.natCast_emod _ _
  omega

theorem step_spec (a : Int) : segs_Step a = some (stepOf a) := by
  unfold segs_Step stepOf
  by_cases h2 : a = 2
  · simp [h2]
  · by_cases h3 : a = 3
    · simp [h3]
    · by_cases h4 : a = 4
      · simp [h4]
      · simp [h2, h3, h4]

theorem up_spec (n a : Int) (h0 : 0 ≤ n) (h1 : n ≤ 16777216) : bits_Up n (stepOf a) = some (up n (stepOf a)) := by
  have key : ∀ j : Nat, j ≤ 8 → (bitsOp .and .i64 (2 ^ j : Nat) (IntKind.wrap .i64 ((2 ^ j : Nat) - 1)) != 0) = false → bits_Up n (2 ^ j : Nat) = some (up n (2 ^ j : Nat)) := by
    intro j hj hb
    have hp : 2 ^ j ≤ 2 ^ 8 := Nat.pow_le_pow_right (by omega) hj
    have hpos : 0 < 2 ^ j := Nat.two_pow_pos j
    generalize hs : ((2 ^ j : Nat) : Int) = s at *
    have hs1 : 1 ≤ s := by omega
    have hs2 : s ≤ 256 := by omega
    unfold bits_Up
    have c1 : ¬ s < 1 := by omega
    have c2 : ¬ s > 4096 := by omega
    simp only [c1, c2, decide_false, Bool.false_eq_true, if_false, hb]
    rw [mnI_eq, mxI_eq, show min (max n 0) 16777216 = n by omega, wrap64 (n := n + s) (by omega) (by omega), wrap64 (n := n + s - 1) (by omega) (by omega), wrap64 (n := s - 1) (by omega) (by omega)]
    have hm := andNot_mask (n + s - 1) j (by omega) (by omega) (by omega)
    rw [show ((2 ^ j - 1 : Nat) : Int) = s - 1 by omega, hs] at hm
    rw [hm, up]
    have := Int.mul_ediv_add_emod (n + s - 1) s
    rw [Int.mul_comm] at this
    congr 1
    omega
  unfold stepOf
  split
  · exact key 1 (by omega) (by decide)
  · split
    · exact key 4 (by omega) (by decide)
    · split
      · exact key 8 (by omega) (by decide)
      · exact key 0 (by omega) (by decide)

theorem up_ge (n a : Int) : n ≤ up n (stepOf a) ∧ up n (stepOf a) ≤ n + 255 := by
  have key : ∀ s : Int, 1 ≤ s → s ≤ 256 → n ≤ up n s ∧ up n s ≤ n + 255 := by
    intro s h1 h2
    unfold up
    have h3 := Int.mul_ediv_add_emod (n + s - 1) s
    have h4 := Int.emod_nonneg (n + s - 1) (show s ≠ 0 by omega)
    have h5 := Int.emod_lt_of_pos (n + s - 1) (show 0 < s by omega)
    rw [Int.mul_comm] at h3
    omega
  unfold stepOf
  split
  · exact key _ (by omega) (by omega)
  · split
    · exact key _ (by omega) (by omega)
    · split
      · exact key _ (by omega) (by omega)
      · exact key _ (by omega) (by omega)

/-- Some rounds of a loop, told by reckoning. -/
def iterO {α β : Type} (f : α → Option (Lp α β)) : Nat → α → Option β
  | 0, _ => none
  | n + 1, x => match f x with
    | some (.next y) => iterO f n y
    | some (.out b) => some b
    | none => none
theorem loopO_iter {α β : Type} {f : α → Option (Lp α β)} : ∀ {n : Nat} {x : α} {b : β}, iterO f n x = some b → loopO f x = some b
  | 0, x, b, h => by simp [iterO] at h
  | n + 1, x, b, h => by
    rw [loopO_eq]
    simp only [iterO] at h
    split at h
    · rename_i y hy
      rw [hy]; exact loopO_iter h
    · rename_i c hc
      rw [hc]; exact h
    · cases h
/-! ### segments that go together -/
def jn (n k : List UInt8) (d : SegDef) (c : Comb) : Bool := decide (d.Align ≠ 0 ∧ c.Align ≠ 0 ∧ d.Combine ≠ 0 ∧ c.Combine = d.Combine ∧ c.Name = n ∧ c.Class = k)
theorem joins_spec (c : Comb) (n k : List UInt8) (d : SegDef) : comb_joins c n k d = some (jn n k d c) := by
  unfold comb_joins jn
  by_cases h1 : d.Align = 0
  · simp [h1]
  by_cases h2 : c.Align = 0
  · simp [h1, h2]
  by_cases h3 : d.Combine = 0
  · simp [h1, h2, h3]
  by_cases h4 : c.Combine = d.Combine
  · by_cases h5 : c.Name = n
    · by_cases h6 : c.Class = k <;> simp [h1, h2, h3, h4, h5, h6]
    · simp [h1, h2, h3, h4, h5]
  · simp [h1, h2, h3, h4]
theorem first_is {α : Type} {p : α → Bool} {l : List α} {i : Nat} (h : i < l.length) (hp : p l[i] = true) (hb : ∀ j, (hj : j < i) → p (l[j]'(by omega)) = false) : l.findIdx p = i := by
  rw [List.findIdx_eq h]
  exact ⟨hp, fun j hj => by simpa using hb j hj⟩
theorem first_none {α : Type} {p : α → Bool} {l : List α} (hb : ∀ j, (hj : j < l.length) → p l[j] = false) : l.findIdx p = l.length := by
  rw [List.findIdx_eq_length]
  intro x hx
  obtain ⟨j, hj, rfl⟩ := List.mem_iff_getElem.1 hx
  exact hb j hj
theorem indexFunc_spec (l : List Comb) (n k : List UInt8) (d : SegDef) (hl : l.length ≤ 1000) :
    slices_IndexFunc_LComb_comb_Add_1 l n k d = some ((if l.findIdx (jn n k d) < l.length then ((l.findIdx (jn n k d) : Nat) : Int) else -1), n, k, d) := by
  unfold slices_IndexFunc_LComb_comb_Add_1
  rw [loop_to (f := fun x : Int => slices_IndexFunc_LComb_comb_Add_1_l6 n k d l (l.length : Int) x) (fun _ => if l.findIdx (jn n k d) < l.length then .inl (((l.findIdx (jn n k d) : Nat) : Int), n, k, d) else .inr ())
    (fun x => ∃ i : Nat, x = i ∧ i ≤ l.length ∧ ∀ j, (hj : j < i) → (hl : j < l.length) → jn n k d l[j] = false) (fun x => (l.length - x).toNat) (fun x hx => ?_) (x := (0 : Int)) ⟨0, rfl, by omega, fun j hj => absurd hj (by omega)⟩]
  · simp only [Option.bind_some]
    by_cases h : l.findIdx (jn n k d) < l.length
    · simp only [h, if_true]
    · simp only [h, if_false]
  · obtain ⟨i, rfl, hi, hb⟩ := hx
    unfold slices_IndexFunc_LComb_comb_Add_1_l6
    by_cases hlt : i < l.length
    · have h1 : (i : Int) < (l.length : Int) := by omega
      simp only [h1, decide_true, if_true, idx_nat hlt, Option.bind_some, comb_Add_1, joins_spec]
      cases hj : jn n k d l[i] with
      | true =>
        right
        have := first_is hlt hj fun j hj' => hb j hj' (by omega)
        simp [this, hlt]
      | false =>
        left
        refine ⟨((i + 1 : Nat) : Int), by simp [wrap64 (n := (i : Int) + 1) (by omega) (by omega)], ⟨i + 1, rfl, by omega, fun j hj' hl' => ?_⟩, by omega, by trivial⟩
        by_cases e : j = i
        · subst e; exact hj
        · exact hb j (by omega) hl'
    · right
      have : i = l.length := by omega
      subst this
      have := first_none fun j hj => hb j hj hj
      simp [this]
def newc (c : Comb) (d : SegDef) (x : Chunk) : Comb := ⟨c.Name, c.Class, if stepOf d.Align > stepOf c.Align then d.Align else c.Align, c.Combine, c.Frame, c.Offset, max c.Len (x.Off + d.Len), c.Chunks ++ [x]⟩
def offOf (c : Comb) (d : SegDef) : Int := if d.Combine = 6 then 0 else up c.Len (stepOf d.Align)
theorem put8_spec (c : Comb) (d : SegDef) (x : Chunk) (n k : List UInt8) (a1 a2 a3 a4 a5 : Int) (hd : 0 ≤ d.Len ∧ d.Len ≤ 100000) (hx : 0 ≤ x.Off ∧ x.Off ≤ 100000) (hc : c.Chunks.length ≤ 1000) :
    ∃ r, comb_put_j8 c d x n k a1 a2 a3 a4 a5 = some r ∧ (if x.Off + d.Len ≤ 65536 then r = (newc c d ⟨x.Mod, x.Seg, x.Off, d.Len⟩, true) else r.2 = false) := by
  unfold comb_put_j8
  rw [wrap64 (n := 65536 - d.Len) (by omega) (by omega)]
  by_cases h : x.Off > 65536 - d.Len
  · simp only [h, decide_true, if_true]
    refine ⟨_, rfl, ?_⟩
    rw [if_neg (by omega)]
  · simp only [h, decide_false, Bool.false_eq_true, if_false, step_spec, Option.bind_some]
    have j : ∀ c' : Comb, c'.Chunks = c.Chunks → comb_put_j22 c' d x n k a1 a2 a3 a4 a5 = some (⟨c'.Name, c'.Class, c'.Align, c'.Combine, c'.Frame, c'.Offset, max c'.Len (x.Off + d.Len), c.Chunks ++ [⟨x.Mod, x.Seg, x.Off, d.Len⟩]⟩, true) := by
      intro c' hc'
      unfold comb_put_j22 slices_Clone_LChunk
      rw [hc', grow_eq (by simp; omega) (by simp; omega), Option.bind_some, grow_eq (by simp; omega) (by simp; omega), Option.bind_some, mxI_eq, wrap64 (by omega) (by omega)]
      rfl
    by_cases hs : stepOf d.Align > stepOf c.Align
    · simp only [hs, decide_true, if_true]
      refine ⟨_, j _ rfl, ?_⟩
      rw [if_pos (by omega)]
      simp [newc, hs]
    · simp only [hs, decide_false, Bool.false_eq_true, if_false]
      refine ⟨_, j _ rfl, ?_⟩
      rw [if_pos (by omega)]
      simp [newc, hs]
theorem put_spec (c : Comb) (d : SegDef) (m s : Int) (hd : 0 ≤ d.Len ∧ d.Len ≤ 100000) (hl : 0 ≤ c.Len ∧ c.Len ≤ 65536) (hc : c.Chunks.length ≤ 1000) :
    ∃ r, comb_put c d ⟨m, s, 0, 0⟩ = some r ∧ (if offOf c d + d.Len ≤ 65536 then r = (newc c d ⟨m, s, offOf c d, d.Len⟩, true) else r.2 = false) := by
  unfold comb_put offOf
  by_cases h : d.Combine = 6
  · simp only [h, bne_self_eq_false, Bool.false_eq_true, if_false, if_true]
    exact put8_spec c d ⟨m, s, 0, 0⟩ _ _ _ _ _ _ _ hd (by simp) hc
  · have h' : (d.Combine != 6) = true := by simp [h]
    simp only [h', if_true, h, if_false, step_spec, Option.bind_some, up_spec c.Len d.Align hl.1 (by omega)]
    have := up_ge c.Len d.Align
    exact put8_spec c d ⟨m, s, up c.Len (stepOf d.Align), 0⟩ _ _ _ _ _ _ _ hd (by simp only; omega) hc
def fresh (n k : List UInt8) (d : SegDef) : Comb := ⟨n, k, d.Align, d.Combine, d.Frame, d.Offset, 0, []⟩
theorem off_fresh (n k : List UInt8) (d : SegDef) : offOf (fresh n k d) d = 0 := by
  unfold offOf fresh up stepOf
  by_cases h : d.Combine = 6
  · simp [h]
  · simp only [h, if_false]
    split
    · rfl
    · split
      · rfl
      · split <;> rfl
def okc (c : Comb) : Prop := (0 ≤ c.Len ∧ c.Len ≤ 65536) ∧ c.Chunks.length ≤ 1000
/-- What a segment makes of those that are put together. -/
def addL (l : List Comb) (n k : List UInt8) (d : SegDef) (m s : Int) : List Comb × Int :=
  match l[l.findIdx (jn n k d)]? with
  | some c => if offOf c d + d.Len ≤ 65536 then (l.set (l.findIdx (jn n k d)) (newc c d ⟨m, s, offOf c d, d.Len⟩), 0) else ([], 8)
  | none => if d.Len ≤ 65536 then (l ++ [newc (fresh n k d) d ⟨m, s, 0, d.Len⟩], 0) else ([], 8)
theorem add_spec (l : List Comb) (n k : List UInt8) (d : SegDef) (m s : Int) (hl : l.length ≤ 1000) (hc : ∀ c ∈ l, okc c) (hd : 0 ≤ d.Len ∧ d.Len ≤ 100000) : comb_Add l n k d m s = some (addL l n k d m s) := by
  unfold comb_Add slices_Clone_LComb
  rw [grow_eq (by simp; omega) (by simp; omega), Option.bind_some, indexFunc_spec l n k d hl, Option.bind_some, List.nil_append]
  by_cases h : l.findIdx (jn n k d) < l.length
  · simp only [h, if_true, show ¬ ((l.findIdx (jn n k d) : Nat) : Int) < 0 from by omega, decide_false, Bool.false_eq_true, if_false]
    unfold comb_Add_j16 addL
    rw [idx_nat h, Option.bind_some, List.getElem?_eq_getElem h]
    have ok := hc _ (List.getElem_mem h)
    obtain ⟨r, h1, h2⟩ := put_spec l[l.findIdx (jn n k d)] d m s hd ok.1 ok.2
    simp only [h1, Option.bind_some]
    split at h2
    · rename_i hf
      subst h2
      simp [hf]
    · rename_i hf
      simp [hf, h2]
  · have hno : l[l.findIdx (jn n k d)]? = none := List.getElem?_eq_none (by omega)
    simp only [h, if_false, show ((-1 : Int) < 0) from by omega, decide_true, if_true]
    rw [grow_eq (by simp; omega) (by simp; omega), Option.bind_some]
    unfold comb_Add_j16 addL
    rw [hno]
    have hi : l.length < (l ++ [fresh n k d]).length := by simp
    have e : (l ++ [fresh n k d])[l.length]'hi = fresh n k d := by simp
    have hfr : (⟨n, k, d.Align, d.Combine, d.Frame, d.Offset, 0, []⟩ : Comb) = fresh n k d := rfl
    rw [hfr, idx_nat hi, Option.bind_some, e]
    obtain ⟨r, h1, h2⟩ := put_spec (fresh n k d) d m s hd (by simp [fresh]) (by simp [fresh])
    rw [off_fresh] at h2
    simp only [h1, Option.bind_some]
    split at h2
    · rename_i hf
      subst h2
      have hf' : d.Len ≤ 65536 := by omega
      simp [hf']
    · rename_i hf
      have hf' : ¬ d.Len ≤ 65536 := by omega
      simp [hf', h2]
/-! ### where a segment is -/
def hits (m s : Int) (x : Chunk) : Bool := x.Mod == m && x.Seg == s
theorem chunks_spec (m s : Int) (i a b : Int) (t : List Comb) (l : List Chunk) (hl : l.length ≤ 2000) :
    loopO (fun x : Int => comb_Find_l20 m s i t a b l (l.length : Int) x) 0 = some (match l.find? (hits m s) with | some x => .inl (i, x.Off, true) | none => .inr ()) := by
  refine loop_to (f := fun x : Int => comb_Find_l20 m s i t a b l (l.length : Int) x) (fun _ => match l.find? (hits m s) with | some x => .inl (i, x.Off, true) | none => .inr ())
    (fun x => ∃ j : Nat, x = j ∧ j ≤ l.length ∧ l.find? (hits m s) = (l.drop j).find? (hits m s)) (fun x => (l.length - x).toNat) (fun x hx => ?_) ⟨0, rfl, by omega, by simp⟩
  obtain ⟨j, rfl, hj, he⟩ := hx
  unfold comb_Find_l20
  by_cases hlt : j < l.length
  · rw [List.drop_eq_getElem_cons hlt, List.find?_cons] at he
    simp only [show (j : Int) < (l.length : Int) from by omega, decide_true, if_true, idx_nat hlt, Option.bind_some]
    cases hh : hits m s l[j] with
    | true =>
      right
      rw [hh] at he
      simp only [hits, Bool.and_eq_true] at hh
      rw [he]
      simp [hh.1, hh.2]
    | false =>
      left
      rw [hh] at he
      refine ⟨((j + 1 : Nat) : Int), ?_, ⟨j + 1, rfl, by omega, he⟩, by omega, by trivial⟩
      have w : IntKind.wrap .i64 ((j : Int) + 1) = ((j + 1 : Nat) : Int) := by rw [wrap64 (by omega) (by omega)]; omega
      simp only [hits] at hh
      by_cases h1 : l[j].Mod = m
      · have h2 : ¬ l[j].Seg = s := fun h2 => by simp [h1, h2] at hh
        simp [h1, h2, w]
      · simp [h1, w]
  · right
    have : j = l.length := by omega
    subst this
    rw [List.drop_length] at he
    rw [he]
    simp
theorem find_loop (m s : Int) (l : List Comb) (hl : l.length ≤ 2000) (hc : ∀ c ∈ l, c.Chunks.length ≤ 2000) :
    loopO (fun x : Int => comb_Find_l6 m s l (l.length : Int) x) 0 = some (match (l.zipIdx).findSome? (fun p => (p.1.Chunks.find? (hits m s)).map fun x => ((p.2 : Int), x.Off, true)) with | some r => .inl r | none => .inr ()) := by
  generalize hF : (fun p : Comb × Nat => (p.1.Chunks.find? (hits m s)).map fun x => ((p.2 : Int), x.Off, true)) = F
  refine loop_to (f := fun x : Int => comb_Find_l6 m s l (l.length : Int) x) (fun _ => match (l.zipIdx).findSome? F with | some r => .inl r | none => .inr ())
    (fun x => ∃ j : Nat, x = j ∧ j ≤ l.length ∧ (l.zipIdx).findSome? F = ((l.drop j).zipIdx j).findSome? F) (fun x => (l.length - x).toNat) (fun x hx => ?_) ⟨0, rfl, by omega, by simp⟩
  obtain ⟨j, rfl, hj, he⟩ := hx
  unfold comb_Find_l6
  by_cases hlt : j < l.length
  · rw [List.drop_eq_getElem_cons hlt, List.zipIdx_cons, List.findSome?_cons] at he
    simp only [show (j : Int) < (l.length : Int) from by omega, decide_true, if_true, idx_nat hlt, Option.bind_some]
    rw [chunks_spec m s _ _ _ _ _ (hc _ (List.getElem_mem hlt)), Option.bind_some]
    have hFj : F (l[j], j) = (l[j].Chunks.find? (hits m s)).map fun x => ((j : Int), x.Off, true) := by rw [← hF]
    rw [hFj] at he
    cases hf : l[j].Chunks.find? (hits m s) with
    | some x =>
      right
      rw [hf] at he
      simp only [Option.map_some] at he
      rw [he]
    | none =>
      left
      rw [hf] at he
      simp only [Option.map_none] at he
      refine ⟨((j + 1 : Nat) : Int), ?_, ⟨j + 1, rfl, by omega, he⟩, by omega, by trivial⟩
      simp only [Option.some.injEq, Lp.next.injEq]
      rw [wrap64 (by omega) (by omega)]; omega
  · right
    have : j = l.length := by omega
    subst this
    rw [List.drop_length] at he
    simp only [List.zipIdx_nil, List.findSome?_nil] at he
    rw [he]
    simp
theorem find_none (m s : Int) (l : List Comb) (hl : l.length ≤ 2000) (hc : ∀ c ∈ l, c.Chunks.length ≤ 2000) (hn : ∀ c ∈ l, ∀ x ∈ c.Chunks, hits m s x = false) : comb_Find l m s = some (0, 0, false) := by
  unfold comb_Find
  rw [find_loop m s l hl hc, Option.bind_some]
  have : (l.zipIdx).findSome? (fun p => (p.1.Chunks.find? (hits m s)).map fun x => ((p.2 : Int), x.Off, true)) = none := by
    rw [List.findSome?_eq_none_iff]
    rintro ⟨c, j⟩ hj
    have hcm : c ∈ l := by
      rw [List.mem_zipIdx_iff_getElem?] at hj
      exact List.mem_of_getElem? hj
    have : c.Chunks.find? (hits m s) = none := by
      rw [List.find?_eq_none]
      intro x hx
      rw [hn c hcm x hx]; simp
    simp [this]
  rw [this]
theorem find_some (m s : Int) (l : List Comb) (hl : l.length ≤ 2000) (hc : ∀ c ∈ l, c.Chunks.length ≤ 2000) (k : Nat) (hk : k < l.length) (x : Chunk) (hx : l[k].Chunks.find? (hits m s) = some x) (hb : ∀ j, (hj : j < k) → ∀ y ∈ (l[j]'(by omega)).Chunks, hits m s y = false) :
    comb_Find l m s = some ((k : Int), x.Off, true) := by
  unfold comb_Find
  rw [find_loop m s l hl hc, Option.bind_some]
  have : (l.zipIdx).findSome? (fun p => (p.1.Chunks.find? (hits m s)).map fun x => ((p.2 : Int), x.Off, true)) = some ((k : Int), x.Off, true) := by
    have e : l = l.take k ++ l[k] :: l.drop (k + 1) := by rw [← List.drop_eq_getElem_cons hk, List.take_append_drop]
    have hz : l.zipIdx = (l.take k).zipIdx ++ (l[k], k) :: (l.drop (k + 1)).zipIdx (k + 1) := by
      conv => lhs; rw [e]
      rw [List.zipIdx_append, List.zipIdx_cons, List.length_take, Nat.min_eq_left (by omega)]
      simp
    rw [hz, List.findSome?_append, List.findSome?_cons]
    have h0 : ((l.take k).zipIdx).findSome? (fun p => (p.1.Chunks.find? (hits m s)).map fun x => ((p.2 : Int), x.Off, true)) = none := by
      rw [List.findSome?_eq_none_iff]
      rintro ⟨c, j⟩ hj
      rw [List.mem_zipIdx_iff_getElem?] at hj
      simp only at hj
      rw [List.getElem?_take] at hj
      split at hj
      · rename_i hlt
        have hjl : j < l.length := by omega
        rw [List.getElem?_eq_getElem hjl] at hj
        cases hj
        have : l[j].Chunks.find? (hits m s) = none := by
          rw [List.find?_eq_none]
          intro y hy
          rw [hb j hlt y hy]; simp
        simp [this]
      · cases hj
    rw [h0, hx]
    rfl
  rw [this]
end Go.Es.Cmb
