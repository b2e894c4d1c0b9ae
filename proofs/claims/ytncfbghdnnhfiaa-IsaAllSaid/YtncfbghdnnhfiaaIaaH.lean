/- What the functions answer, in plain Lean. No condition. -/
import Derived.Test.YtncfbghdnnhfiaaIaaP
import Derived.KernelRfl
set_option linter.unusedVariables false
set_option linter.unusedSimpArgs false
set_option maxHeartbeats 4000000
set_option maxRecDepth 100000
namespace Go.Es.Iaa
/-- Some rounds of a loop, told by reckoning. -/
def iterO {α β : Type} (f : α → Option (Lp α β)) : Nat → α → Option β
  | 0, _ => none
  | n + 1, x => match f x with
    | some (.next y) => iterO f n y
    | some (.out b) => some b
    | none => none
theorem loopO_iter {α β : Type} {f : α → Option (Lp α β)} : ∀ {n : Nat} {x : α} {b : β}, iterO f n x = some b → loopO f x = some b
  | 0, x, b, h => by simp [iterO] at h
  | n + 1, x, b, h => by
    rw [loopO_eq]
    simp only [iterO] at h
    split at h
    · rename_i y hy
      rw [hy]; exact loopO_iter h
    · rename_i c hc
      rw [hc]; exact h
    · cases h
/-! ### texts -/
def skipU : List UInt8 → List UInt8
  | [] => []
  | c :: r => if c.toNat = 32 then r else skipU r
def takeU : List UInt8 → List UInt8
  | [] => []
  | c :: r => if c.toNat = 32 then [] else c :: takeU r
def wordU (s : List UInt8) : Nat → List UInt8
  | 0 => takeU s
  | n + 1 => wordU (skipU s) n
def fndU (w : List UInt8) : List UInt8 → List UInt8 → Nat → Nat
  | [], _, _ => 0
  | c :: r, cur, n => if c.toNat = 32 then (if cur = w then n else fndU w r [] (n + 1)) else fndU w r (cur ++ [c]) n
def prtU (mark : Nat) : List UInt8 → List UInt8 → Nat → List UInt8
  | [], cur, n => if n = 0 then cur else []
  | c :: r, cur, n => if c.toNat = mark then (if n = 0 then cur else prtU mark r [] (n - 1)) else prtU mark r (cur ++ [c]) n
theorem takeU_len (s : List UInt8) : (takeU s).length ≤ s.length := by
  induction s with
  | nil => simp [takeU]
  | cons c r ih => unfold takeU; split <;> simp; omega
theorem takeU_take (s : List UInt8) : takeU s = s.take (takeU s).length := by
  induction s with
  | nil => simp [takeU]
  | cons c r ih =>
    unfold takeU
    split
    · simp
    · simp only [List.length_cons, List.take_succ_cons]; rw [← ih]
theorem skipU_drop (s : List UInt8) : skipU s = s.drop ((takeU s).length + 1) := by
  induction s with
  | nil => simp [skipU]
  | cons c r ih =>
    unfold skipU takeU
    split
    · simp
    · simp only [List.length_cons, List.drop_succ_cons]; exact ih
theorem word_in (s : List UInt8) (n k : Int) (a : Nat) (ha : a ≤ s.length) (hs : s.length ≤ 100000) :
    loopO (fun x : Int => hansomref04_word_l19 s n x k) (a : Int) = some ((a + (takeU (s.drop a)).length : Nat) : Int) := by
  refine loop_to (f := fun x : Int => hansomref04_word_l19 s n x k) (fun x => ((x.toNat + (takeU (s.drop x.toNat)).length : Nat) : Int)) (fun x => ∃ b : Nat, x = (b : Int) ∧ b ≤ s.length) (fun x => (s.length - x).toNat) (fun x hx => ?_) ⟨a, rfl, ha⟩
  obtain ⟨b, rfl, hb⟩ := hx
  unfold hansomref04_word_l19
  by_cases hlt : b < s.length
  · simp only [show (b : Int) < (s.length : Int) from by omega, decide_true, if_true, idx_nat hlt, Option.bind_some, Int.toNat_natCast]
    by_cases hc : s[b].toNat = 32
    · right
      have : takeU (s.drop b) = [] := by rw [List.drop_eq_getElem_cons hlt]; simp [takeU, hc]
      simp [hc, this]
    · left
      have hc' : (((s[b].toNat : Nat) : Int) != 32) = true := by simp; omega
      have w : IntKind.wrap .i64 ((b : Int) + 1) = ((b + 1 : Nat) : Int) := by rw [wrap64 (by omega) (by omega)]; omega
      refine ⟨((b + 1 : Nat) : Int), by simp only [hc', if_true, w], ⟨b + 1, rfl, by omega⟩, by omega, ?_⟩
      have : takeU (s.drop b) = s[b] :: takeU (s.drop (b + 1)) := by rw [List.drop_eq_getElem_cons hlt]; simp [takeU, hc]
      rw [this, Int.toNat_natCast, List.length_cons]
      omega
  · right
    have : b = s.length := by omega
    subst this
    simp [takeU]
theorem word_end (s : List UInt8) (e : Int) (a : Nat) (ha : a ≤ s.length + 1) (hs : s.length ≤ 100000) :
    loopO (fun x : Int => hansomref04_word_l34 s e x) (a : Int) = some ((a + (takeU (s.drop a)).length : Nat) : Int) := by
  refine loop_to (f := fun x : Int => hansomref04_word_l34 s e x) (fun x => ((x.toNat + (takeU (s.drop x.toNat)).length : Nat) : Int)) (fun x => ∃ b : Nat, x = (b : Int) ∧ b ≤ s.length + 1) (fun x => (s.length - x).toNat) (fun x hx => ?_) ⟨a, rfl, ha⟩
  obtain ⟨b, rfl, hb⟩ := hx
  unfold hansomref04_word_l34
  by_cases hlt : b < s.length
  · simp only [show (b : Int) < (s.length : Int) from by omega, decide_true, if_true, idx_nat hlt, Option.bind_some, Int.toNat_natCast]
    by_cases hc : s[b].toNat = 32
    · right
      have : takeU (s.drop b) = [] := by rw [List.drop_eq_getElem_cons hlt]; simp [takeU, hc]
      simp [hc, this]
    · left
      have hc' : (((s[b].toNat : Nat) : Int) != 32) = true := by simp; omega
      have w : IntKind.wrap .i64 ((b : Int) + 1) = ((b + 1 : Nat) : Int) := by rw [wrap64 (by omega) (by omega)]; omega
      refine ⟨((b + 1 : Nat) : Int), by simp only [hc', if_true, w], ⟨b + 1, rfl, by omega⟩, by omega, ?_⟩
      have : takeU (s.drop b) = s[b] :: takeU (s.drop (b + 1)) := by rw [List.drop_eq_getElem_cons hlt]; simp [takeU, hc]
      rw [this, Int.toNat_natCast, List.length_cons]
      omega
  · right
    have : s.drop b = [] := List.drop_of_length_le (by omega)
    simp only [show ¬ (b : Int) < (s.length : Int) from by omega, decide_false, Bool.false_eq_true, if_false, Int.toNat_natCast, this, takeU]
    simp
def skips : Nat → List UInt8 → List UInt8
  | 0, s => s
  | n + 1, s => skips n (skipU s)
theorem skips_nil : ∀ n, skips n [] = []
  | 0 => rfl
  | n + 1 => skips_nil n
theorem wordU_skips : ∀ (n : Nat) (s : List UInt8), wordU s n = takeU (skips n s)
  | 0, s => rfl
  | n + 1, s => wordU_skips n (skipU s)
theorem word_spec (s : List UInt8) (n : Nat) (hs : s.length ≤ 100000) (hn : n ≤ 100000) : hansomref04_word s (n : Int) = some (wordU s n) := by
  unfold hansomref04_word
  obtain ⟨b, h1, a, h2, h3, h4⟩ := loop_rule (f := fun x : Int × Int => hansomref04_word_l8 s (n : Int) x.1 x.2) (fun x => ∃ a k : Nat, x = ((a : Int), (k : Int)) ∧ a ≤ s.length + 1 ∧ k ≤ n ∧ skips (n - k) (s.drop a) = skips n s) (fun x => (n - x.2).toNat)
    (fun b => ∃ a : Nat, b = (a : Int) ∧ a ≤ s.length + 1 ∧ s.drop a = skips n s) (fun x hx => by
      obtain ⟨a, k, rfl, ha, hk, he⟩ := hx
      simp only
      unfold hansomref04_word_l8
      by_cases h1 : k < n
      · by_cases h2 : a < s.length
        · left
          have hl := takeU_len (s.drop a)
          rw [List.length_drop] at hl
          simp only [show (k : Int) < (n : Int) from by omega, show (a : Int) < (s.length : Int) from by omega, decide_true, if_true, word_in s n k a (by omega) hs, Option.bind_some]
          refine ⟨(((a + (takeU (s.drop a)).length + 1 : Nat) : Int), ((k + 1 : Nat) : Int)), ?_, ⟨a + (takeU (s.drop a)).length + 1, k + 1, rfl, by omega, by omega, ?_⟩, by simp only; omega⟩
          · rw [wrap64 (by omega) (by omega), wrap64 (by omega) (by omega)]; rfl
          · rw [← he, show n - k = (n - (k + 1)) + 1 by omega]
            simp only [skips]
            rw [skipU_drop, List.drop_drop]
            rfl
        · right
          simp only [show (k : Int) < (n : Int) from by omega, show ¬ (a : Int) < (s.length : Int) from by omega, decide_true, decide_false, if_true, Bool.false_eq_true, if_false]
          refine ⟨_, rfl, a, rfl, ha, ?_⟩
          have hd : s.drop a = [] := List.drop_of_length_le (by omega)
          rw [hd, skips_nil] at he
          rw [hd, ← he]
      · right
        have : k = n := by omega
        subst this
        simp only [show ¬ (k : Int) < (k : Int) from by omega, decide_false, Bool.false_eq_true, if_false]
        refine ⟨_, rfl, a, rfl, ha, ?_⟩
        rw [Nat.sub_self] at he
        exact he) (x := (0, 0)) ⟨0, 0, rfl, by omega, by omega, by simp⟩
  subst h2
  rw [h1, Option.bind_some, word_end s _ a h3 hs, Option.bind_some, wordU_skips, ← h4]
  by_cases hlt : a < s.length
  · have hl := takeU_len (s.drop a)
    rw [List.length_drop] at hl
    simp only [show ¬ (a : Int) ≥ (s.length : Int) from by omega, decide_false, Bool.false_eq_true, if_false]
    rw [cutL_eq (by omega) (by omega) (by omega), Option.bind_some, Int.toNat_natCast, Int.toNat_natCast, Nat.add_sub_cancel_left, ← takeU_take]
  · have : s.drop a = [] := List.drop_of_length_le (by omega)
    simp only [show (a : Int) ≥ (s.length : Int) from by omega, decide_true, if_true, this, takeU]
theorem cut_snoc (s : List UInt8) (a b : Nat) (h1 : a ≤ b) (h2 : b < s.length) : (s.drop a).take (b - a) ++ [s[b]] = (s.drop a).take (b + 1 - a) := by
  rw [show b + 1 - a = (b - a) + 1 by omega, List.take_succ_eq_append_getElem (by rw [List.length_drop]; omega)]
  simp [show a + (b - a) = b by omega]
theorem find_spec (s w : List UInt8) (hs : s.length ≤ 100000) : hansomref04_find s w = some ((fndU w s [] 1 : Nat) : Int) := by
  unfold hansomref04_find
  have h := loop_to (f := fun x : Int × Int × Int => hansomref04_find_l8 s w x.1 x.2.1 x.2.2) (fun x => if fndU w (s.drop x.2.2.toNat) ((s.drop x.2.1.toNat).take (x.2.2.toNat - x.2.1.toNat)) x.1.toNat = 0 then (.inr () : Int ⊕ Unit) else .inl ((fndU w (s.drop x.2.2.toNat) ((s.drop x.2.1.toNat).take (x.2.2.toNat - x.2.1.toNat)) x.1.toNat : Nat) : Int))
    (fun x => ∃ n a b : Nat, x = ((n : Int), (a : Int), (b : Int)) ∧ 1 ≤ n ∧ n ≤ b + 1 ∧ a ≤ b ∧ b ≤ s.length) (fun x => (s.length - x.2.2).toNat) (fun x hx => by
      obtain ⟨n, a, b, rfl, hn, hn2, ha, hb⟩ := hx
      simp only [Int.toNat_natCast]
      unfold hansomref04_find_l8
      have w1 : IntKind.wrap .i64 ((b : Int) + 1) = ((b + 1 : Nat) : Int) := by rw [wrap64 (by omega) (by omega)]; omega
      have w2 : IntKind.wrap .i64 ((n : Int) + 1) = ((n + 1 : Nat) : Int) := by rw [wrap64 (by omega) (by omega)]; omega
      by_cases hlt : b < s.length
      · have hd : s.drop b = s[b] :: s.drop (b + 1) := List.drop_eq_getElem_cons hlt
        simp only [show (b : Int) < (s.length : Int) from by omega, decide_true, if_true, idx_nat hlt, Option.bind_some, w1, w2]
        by_cases hc : s[b].toNat = 32
        · have hc' : (((s[b].toNat : Nat) : Int) != 32) = false := by simp [hc]
          simp only [hc', Bool.false_eq_true, if_false]
          rw [cutL_eq (by omega) (by omega) (by omega), Option.bind_some, Int.toNat_natCast, Int.toNat_natCast]
          by_cases hw : (s.drop a).take (b - a) = w
          · right
            simp only [hw, beq_self_eq_true, if_true, hd, fndU, hc]
            rw [if_neg (by omega)]
          · left
            have hw' : ((s.drop a).take (b - a) == w) = false := by simpa using hw
            simp only [hw', Bool.false_eq_true, if_false]
            refine ⟨_, rfl, ⟨n + 1, b + 1, b + 1, rfl, by omega, by omega, by omega, by omega⟩, by simp only; omega, ?_⟩
            simp only [Int.toNat_natCast, hd, fndU, hc, if_true, hw, if_false, Nat.sub_self, List.take_zero]
        · left
          have hc' : (((s[b].toNat : Nat) : Int) != 32) = true := by simp; omega
          simp only [hc', if_true]
          refine ⟨_, rfl, ⟨n, a, b + 1, rfl, hn, by omega, by omega, by omega⟩, by simp only; omega, ?_⟩
          simp only [Int.toNat_natCast, hd, fndU, hc, if_false]
          rw [cut_snoc s a b ha hlt]
      · right
        have : b = s.length := by omega
        subst this
        simp [fndU]) (x := (1, 0, 0)) ⟨1, 0, 0, rfl, by omega, by omega, by omega, by omega⟩
  rw [h]
  simp only [Option.bind_some]
  show (match (if fndU w s [] 1 = 0 then (.inr () : Int ⊕ Unit) else .inl ((fndU w s [] 1 : Nat) : Int)) with | .inl e => some e | .inr _ => some 0) = _
  split
  · rename_i h0; split at h0
    · cases h0
    · cases h0; rfl
  · rename_i h0; split at h0
    · rename_i hz; rw [hz]; rfl
    · cases h0
theorem part_spec (s : List UInt8) (mark n : Nat) (hs : s.length ≤ 100000) (hn : n ≤ 100000) : hansomref04_part s (mark : Int) (n : Int) = some (prtU mark s [] n) := by
  unfold hansomref04_part
  have h := loop_rule (f := fun x : Int × Int × Int => hansomref04_part_l8 s (mark : Int) x.1 x.2.1 x.2.2)
    (fun x => (∃ n' a b : Nat, x = ((n' : Int), (a : Int), (b : Int)) ∧ n' ≤ n ∧ a ≤ b ∧ b ≤ s.length ∧ prtU mark (s.drop b) ((s.drop a).take (b - a)) n' = prtU mark s [] n) ∨ ((s.length : Int) < x.2.2 ∧ prtU mark s [] n = [])) (fun x => (s.length + 1 - x.2.2).toNat)
    (fun r => (match r with | .inl e => e | .inr _ => ([] : List UInt8)) = prtU mark s [] n) (fun x hx => by
      rcases hx with ⟨n', a, b, rfl, hn', ha, hb, he⟩ | ⟨hx, he⟩
      · simp only
        unfold hansomref04_part_l8
        have w1 : IntKind.wrap .i64 ((b : Int) + 1) = ((b + 1 : Nat) : Int) := by rw [wrap64 (by omega) (by omega)]; omega
        simp only [show (b : Int) ≤ (s.length : Int) from by omega, decide_true, if_true, w1]
        by_cases hlt : b < s.length
        · have hd : s.drop b = s[b] :: s.drop (b + 1) := List.drop_eq_getElem_cons hlt
          rw [hd] at he
          simp only [show (b : Int) < (s.length : Int) from by omega, decide_true, if_true, idx_nat hlt, Option.bind_some]
          by_cases hc : s[b].toNat = mark
          · have hc' : (((s[b].toNat : Nat) : Int) != (mark : Int)) = false := by simp [hc]
            simp only [hc', Bool.false_eq_true, if_false]
            simp only [prtU, hc, if_true] at he
            by_cases hz : n' = 0
            · right
              subst hz
              simp only [if_true] at he
              simp only [Int.natCast_zero, beq_self_eq_true, if_true]
              rw [cutL_eq (by omega) (by omega) (by omega), Option.bind_some, Int.toNat_natCast, Int.toNat_natCast, he]
              exact ⟨_, rfl, rfl⟩
            · left
              rw [if_neg hz] at he
              have hz' : ((n' : Int) == 0) = false := by simp; omega
              have w3 : IntKind.wrap .i64 ((n' : Int) - 1) = ((n' - 1 : Nat) : Int) := by rw [wrap64 (by omega) (by omega)]; omega
              simp only [hz', Bool.false_eq_true, if_false, w3]
              refine ⟨_, rfl, .inl ⟨n' - 1, b + 1, b + 1, rfl, by omega, by omega, by omega, ?_⟩, by simp only; omega⟩
              rw [Nat.sub_self, List.take_zero]; exact he
          · left
            have hc' : (((s[b].toNat : Nat) : Int) != (mark : Int)) = true := by simp; omega
            simp only [hc', if_true]
            simp only [prtU, hc, if_false] at he
            refine ⟨_, rfl, .inl ⟨n', a, b + 1, rfl, by omega, by omega, by omega, ?_⟩, by simp only; omega⟩
            rw [← cut_snoc s a b ha hlt]; exact he
        · have hbl : b = s.length := by omega
          subst hbl
          rw [List.drop_length] at he
          simp only [prtU] at he
          simp only [show ¬ (s.length : Int) < (s.length : Int) from by omega, decide_false, Bool.false_eq_true, if_false]
          by_cases hz : n' = 0
          · right
            subst hz
            simp only [if_true] at he
            simp only [Int.natCast_zero, beq_self_eq_true, if_true]
            rw [cutL_eq (by omega) (by omega) (by omega), Option.bind_some, Int.toNat_natCast, Int.toNat_natCast, he]
            exact ⟨_, rfl, rfl⟩
          · left
            rw [if_neg hz] at he
            have hz' : ((n' : Int) == 0) = false := by simp; omega
            simp only [hz', Bool.false_eq_true, if_false]
            exact ⟨_, rfl, .inr ⟨by simp only; omega, he.symm⟩, by simp only; omega⟩
      · right
        unfold hansomref04_part_l8
        simp only [show ¬ x.2.2 ≤ (s.length : Int) from by omega, decide_false, Bool.false_eq_true, if_false]
        exact ⟨_, rfl, he.symm⟩) (x := ((n : Int), 0, 0)) (.inl ⟨n, 0, 0, rfl, by omega, by omega, by omega, by simp⟩)
  obtain ⟨r, h1, h2⟩ := h
  rw [h1, Option.bind_some, ← h2]
  cases r <;> rfl
def TBL : List UInt8 := [65, 68, 68, 58, 69, 98, 58, 71, 98, 32, 65, 68, 68, 58, 69, 118, 58, 71, 118, 32, 65, 68, 68, 58, 71, 98, 58, 69, 98, 32, 65, 68, 68, 58, 71, 118, 58, 69, 118, 32, 65, 68, 68, 58, 65, 76, 58, 73, 98, 32, 65, 68, 68, 58, 65, 88, 58, 73, 118, 32, 80, 85, 83, 72, 58, 90, 115, 32, 80, 79, 80, 58, 90, 115, 32, 79, 82, 58, 69, 98, 58, 71, 98, 32, 79, 82, 58, 69, 118, 58, 71, 118, 32, 79, 82, 58, 71, 98, 58, 69, 98, 32, 79, 82, 58, 71, 118, 58, 69, 118, 32, 79, 82, 58, 65, 76, 58, 73, 98, 32, 79, 82, 58, 65, 88, 58, 73, 118, 32, 80, 85, 83, 72, 58, 90, 115, 32, 45, 32, 65, 68, 67, 58, 69, 98, 58, 71, 98, 32, 65, 68, 67, 58, 69, 118, 58, 71, 118, 32, 65, 68, 67, 58, 71, 98, 58, 69, 98, 32, 65, 68, 67, 58, 71, 118, 58, 69, 118, 32, 65, 68, 67, 58, 65, 76, 58, 73, 98, 32, 65, 68, 67, 58, 65, 88, 58, 73, 118, 32, 80, 85, 83, 72, 58, 90, 115, 32, 80, 79, 80, 58, 90, 115, 32, 83, 66, 66, 58, 69, 98, 58, 71, 98, 32, 83, 66, 66, 58, 69, 118, 58, 71, 118, 32, 83, 66, 66, 58, 71, 98, 58, 69, 98, 32, 83, 66, 66, 58, 71, 118, 58, 69, 118, 32, 83, 66, 66, 58, 65, 76, 58, 73, 98, 32, 83, 66, 66, 58, 65, 88, 58, 73, 118, 32, 80, 85, 83, 72, 58, 90, 115, 32, 80, 79, 80, 58, 90, 115, 32, 65, 78, 68, 58, 69, 98, 58, 71, 98, 32, 65, 78, 68, 58, 69, 118, 58, 71, 118, 32, 65, 78, 68, 58, 71, 98, 58, 69, 98, 32, 65, 78, 68, 58, 71, 118, 58, 69, 118, 32, 65, 78, 68, 58, 65, 76, 58, 73, 98, 32, 65, 78, 68, 58, 65, 88, 58, 73, 118, 32, 45, 32, 68, 65, 65, 32, 83, 85, 66, 58, 69, 98, 58, 71, 98, 32, 83, 85, 66, 58, 69, 118, 58, 71, 118, 32, 83, 85, 66, 58, 71, 98, 58, 69, 98, 32, 83, 85, 66, 58, 71, 118, 58, 69, 118, 32, 83, 85, 66, 58, 65, 76, 58, 73, 98, 32, 83, 85, 66, 58, 65, 88, 58, 73, 118, 32, 45, 32, 68, 65, 83, 32, 88, 79, 82, 58, 69, 98, 58, 71, 98, 32, 88, 79, 82, 58, 69, 118, 58, 71, 118, 32, 88, 79, 82, 58, 71, 98, 58, 69, 98, 32, 88, 79, 82, 58, 71, 118, 58, 69, 118, 32, 88, 79, 82, 58, 65, 76, 58, 73, 98, 32, 88, 79, 82, 58, 65, 88, 58, 73, 118, 32, 45, 32, 65, 65, 65, 32, 67, 77, 80, 58, 69, 98, 58, 71, 98, 32, 67, 77, 80, 58, 69, 118, 58, 71, 118, 32, 67, 77, 80, 58, 71, 98, 58, 69, 98, 32, 67, 77, 80, 58, 71, 118, 58, 69, 118, 32, 67, 77, 80, 58, 65, 76, 58, 73, 98, 32, 67, 77, 80, 58, 65, 88, 58, 73, 118, 32, 45, 32, 65, 65, 83, 32, 73, 78, 67, 58, 90, 118, 32, 73, 78, 67, 58, 90, 118, 32, 73, 78, 67, 58, 90, 118, 32, 73, 78, 67, 58, 90, 118, 32, 73, 78, 67, 58, 90, 118, 32, 73, 78, 67, 58, 90, 118, 32, 73, 78, 67, 58, 90, 118, 32, 73, 78, 67, 58, 90, 118, 32, 68, 69, 67, 58, 90, 118, 32, 68, 69, 67, 58, 90, 118, 32, 68, 69, 67, 58, 90, 118, 32, 68, 69, 67, 58, 90, 118, 32, 68, 69, 67, 58, 90, 118, 32, 68, 69, 67, 58, 90, 118, 32, 68, 69, 67, 58, 90, 118, 32, 68, 69, 67, 58, 90, 118, 32, 80, 85, 83, 72, 58, 90, 118, 32, 80, 85, 83, 72, 58, 90, 118, 32, 80, 85, 83, 72, 58, 90, 118, 32, 80, 85, 83, 72, 58, 90, 118, 32, 80, 85, 83, 72, 58, 90, 118, 32, 80, 85, 83, 72, 58, 90, 118, 32, 80, 85, 83, 72, 58, 90, 118, 32, 80, 85, 83, 72, 58, 90, 118, 32, 80, 79, 80, 58, 90, 118, 32, 80, 79, 80, 58, 90, 118, 32, 80, 79, 80, 58, 90, 118, 32, 80, 79, 80, 58, 90, 118, 32, 80, 79, 80, 58, 90, 118, 32, 80, 79, 80, 58, 90, 118, 32, 80, 79, 80, 58, 90, 118, 32, 80, 79, 80, 58, 90, 118, 32, 45, 32, 45, 32, 45, 32, 45, 32, 45, 32, 45, 32, 45, 32, 45, 32, 45, 32, 45, 32, 45, 32, 45, 32, 45, 32, 45, 32, 45, 32, 45, 32, 74, 79, 58, 74, 98, 32, 74, 78, 79, 58, 74, 98, 32, 74, 66, 58, 74, 98, 32, 74, 78, 66, 58, 74, 98, 32, 74, 90, 58, 74, 98, 32, 74, 78, 90, 58, 74, 98, 32, 74, 66, 69, 58, 74, 98, 32, 74, 65, 58, 74, 98, 32, 74, 83, 58, 74, 98, 32, 74, 78, 83, 58, 74, 98, 32, 74, 80, 58, 74, 98, 32, 74, 78, 80, 58, 74, 98, 32, 74, 76, 58, 74, 98, 32, 74, 71, 69, 58, 74, 98, 32, 74, 76, 69, 58, 74, 98, 32, 74, 71, 58, 74, 98, 32, 47, 65, 68, 68, 58, 69, 98, 58, 73, 98, 47, 79, 82, 58, 69, 98, 58, 73, 98, 47, 65, 68, 67, 58, 69, 98, 58, 73, 98, 47, 83, 66, 66, 58, 69, 98, 58, 73, 98, 47, 65, 78, 68, 58, 69, 98, 58, 73, 98, 47, 83, 85, 66, 58, 69, 98, 58, 73, 98, 47, 88, 79, 82, 58, 69, 98, 58, 73, 98, 47, 67, 77, 80, 58, 69, 98, 58, 73, 98, 32, 47, 65, 68, 68, 58, 69, 118, 58, 73, 118, 47, 79, 82, 58, 69, 118, 58, 73, 118, 47, 65, 68, 67, 58, 69, 118, 58, 73, 118, 47, 83, 66, 66, 58, 69, 118, 58, 73, 118, 47, 65, 78, 68, 58, 69, 118, 58, 73, 118, 47, 83, 85, 66, 58, 69, 118, 58, 73, 118, 47, 88, 79, 82, 58, 69, 118, 58, 73, 118, 47, 67, 77, 80, 58, 69, 118, 58, 73, 118, 32, 45, 32, 47, 65, 68, 68, 58, 69, 118, 58, 73, 115, 47, 45, 47, 65, 68, 67, 58, 69, 118, 58, 73, 115, 47, 83, 66, 66, 58, 69, 118, 58, 73, 115, 47, 45, 47, 83, 85, 66, 58, 69, 118, 58, 73, 115, 47, 45, 47, 67, 77, 80, 58, 69, 118, 58, 73, 115, 32, 84, 69, 83, 84, 58, 69, 98, 58, 71, 98, 32, 84, 69, 83, 84, 58, 69, 118, 58, 71, 118, 32, 88, 67, 72, 71, 58, 69, 98, 58, 71, 98, 32, 88, 67, 72, 71, 58, 69, 118, 58, 71, 118, 32, 77, 79, 86, 58, 69, 98, 58, 71, 98, 32, 77, 79, 86, 58, 69, 118, 58, 71, 118, 32, 77, 79, 86, 58, 71, 98, 58, 69, 98, 32, 77, 79, 86, 58, 71, 118, 58, 69, 118, 32, 47, 77, 79, 86, 58, 69, 118, 58, 83, 119, 47, 77, 79, 86, 58, 69, 118, 58, 83, 119, 47, 77, 79, 86, 58, 69, 118, 58, 83, 119, 47, 77, 79, 86, 58, 69, 118, 58, 83, 119, 47, 45, 47, 45, 47, 45, 47, 45, 32, 76, 69, 65, 58, 71, 118, 58, 77, 32, 47, 77, 79, 86, 58, 83, 119, 58, 69, 118, 47, 45, 47, 77, 79, 86, 58, 83, 119, 58, 69, 118, 47, 77, 79, 86, 58, 83, 119, 58, 69, 118, 47, 45, 47, 45, 47, 45, 47, 45, 32, 47, 80, 79, 80, 58, 69, 118, 47, 45, 47, 45, 47, 45, 47, 45, 47, 45, 47, 45, 47, 45, 32, 88, 67, 72, 71, 58, 65, 88, 58, 90, 118, 32, 88, 67, 72, 71, 58, 65, 88, 58, 90, 118, 32, 88, 67, 72, 71, 58, 65, 88, 58, 90, 118, 32, 88, 67, 72, 71, 58, 65, 88, 58, 90, 118, 32, 88, 67, 72, 71, 58, 65, 88, 58, 90, 118, 32, 88, 67, 72, 71, 58, 65, 88, 58, 90, 118, 32, 88, 67, 72, 71, 58, 65, 88, 58, 90, 118, 32, 88, 67, 72, 71, 58, 65, 88, 58, 90, 118, 32, 67, 66, 87, 32, 67, 87, 68, 32, 67, 65, 76, 76, 70, 58, 65, 112, 32, 87, 65, 73, 84, 32, 80, 85, 83, 72, 70, 32, 80, 79, 80, 70, 32, 83, 65, 72, 70, 32, 76, 65, 72, 70, 32, 77, 79, 86, 58, 65, 76, 58, 79, 98, 32, 77, 79, 86, 58, 65, 88, 58, 79, 118, 32, 77, 79, 86, 58, 79, 98, 58, 65, 76, 32, 77, 79, 86, 58, 79, 118, 58, 65, 88, 32, 77, 79, 86, 83, 66, 32, 77, 79, 86, 83, 87, 32, 67, 77, 80, 83, 66, 32, 67, 77, 80, 83, 87, 32, 84, 69, 83, 84, 58, 65, 76, 58, 73, 98, 32, 84, 69, 83, 84, 58, 65, 88, 58, 73, 118, 32, 83, 84, 79, 83, 66, 32, 83, 84, 79, 83, 87, 32, 76, 79, 68, 83, 66, 32, 76, 79, 68, 83, 87, 32, 83, 67, 65, 83, 66, 32, 83, 67, 65, 83, 87, 32, 77, 79, 86, 58, 90, 98, 58, 73, 98, 32, 77, 79, 86, 58, 90, 98, 58, 73, 98, 32, 77, 79, 86, 58, 90, 98, 58, 73, 98, 32, 77, 79, 86, 58, 90, 98, 58, 73, 98, 32, 77, 79, 86, 58, 90, 98, 58, 73, 98, 32, 77, 79, 86, 58, 90, 98, 58, 73, 98, 32, 77, 79, 86, 58, 90, 98, 58, 73, 98, 32, 77, 79, 86, 58, 90, 98, 58, 73, 98, 32, 77, 79, 86, 58, 90, 118, 58, 73, 118, 32, 77, 79, 86, 58, 90, 118, 58, 73, 118, 32, 77, 79, 86, 58, 90, 118, 58, 73, 118, 32, 77, 79, 86, 58, 90, 118, 58, 73, 118, 32, 77, 79, 86, 58, 90, 118, 58, 73, 118, 32, 77, 79, 86, 58, 90, 118, 58, 73, 118, 32, 77, 79, 86, 58, 90, 118, 58, 73, 118, 32, 77, 79, 86, 58, 90, 118, 58, 73, 118, 32, 45, 32, 45, 32, 82, 69, 84, 58, 73, 118, 32, 82, 69, 84, 32, 76, 69, 83, 58, 71, 118, 58, 77, 112, 32, 76, 68, 83, 58, 71, 118, 58, 77, 112, 32, 47, 77, 79, 86, 58, 69, 98, 58, 73, 98, 47, 45, 47, 45, 47, 45, 47, 45, 47, 45, 47, 45, 47, 45, 32, 47, 77, 79, 86, 58, 69, 118, 58, 73, 118, 47, 45, 47, 45, 47, 45, 47, 45, 47, 45, 47, 45, 47, 45, 32, 45, 32, 45, 32, 82, 69, 84, 70, 58, 73, 118, 32, 82, 69, 84, 70, 32, 73, 78, 84, 58, 84, 104, 114, 101, 101, 32, 73, 78, 84, 58, 73, 98, 32, 73, 78, 84, 79, 32, 73, 82, 69, 84, 32, 47, 82, 79, 76, 58, 69, 98, 58, 79, 110, 101, 47, 82, 79, 82, 58, 69, 98, 58, 79, 110, 101, 47, 82, 67, 76, 58, 69, 98, 58, 79, 110, 101, 47, 82, 67, 82, 58, 69, 98, 58, 79, 110, 101, 47, 83, 72, 76, 58, 69, 98, 58, 79, 110, 101, 47, 83, 72, 82, 58, 69, 98, 58, 79, 110, 101, 47, 45, 47, 83, 65, 82, 58, 69, 98, 58, 79, 110, 101, 32, 47, 82, 79, 76, 58, 69, 118, 58, 79, 110, 101, 47, 82, 79, 82, 58, 69, 118, 58, 79, 110, 101, 47, 82, 67, 76, 58, 69, 118, 58, 79, 110, 101, 47, 82, 67, 82, 58, 69, 118, 58, 79, 110, 101, 47, 83, 72, 76, 58, 69, 118, 58, 79, 110, 101, 47, 83, 72, 82, 58, 69, 118, 58, 79, 110, 101, 47, 45, 47, 83, 65, 82, 58, 69, 118, 58, 79, 110, 101, 32, 47, 82, 79, 76, 58, 69, 98, 58, 67, 76, 47, 82, 79, 82, 58, 69, 98, 58, 67, 76, 47, 82, 67, 76, 58, 69, 98, 58, 67, 76, 47, 82, 67, 82, 58, 69, 98, 58, 67, 76, 47, 83, 72, 76, 58, 69, 98, 58, 67, 76, 47, 83, 72, 82, 58, 69, 98, 58, 67, 76, 47, 45, 47, 83, 65, 82, 58, 69, 98, 58, 67, 76, 32, 47, 82, 79, 76, 58, 69, 118, 58, 67, 76, 47, 82, 79, 82, 58, 69, 118, 58, 67, 76, 47, 82, 67, 76, 58, 69, 118, 58, 67, 76, 47, 82, 67, 82, 58, 69, 118, 58, 67, 76, 47, 83, 72, 76, 58, 69, 118, 58, 67, 76, 47, 83, 72, 82, 58, 69, 118, 58, 67, 76, 47, 45, 47, 83, 65, 82, 58, 69, 118, 58, 67, 76, 32, 65, 65, 77, 58, 73, 98, 32, 65, 65, 68, 58, 73, 98, 32, 45, 32, 88, 76, 65, 84, 32, 69, 83, 67, 58, 69, 118, 32, 69, 83, 67, 58, 69, 118, 32, 69, 83, 67, 58, 69, 118, 32, 69, 83, 67, 58, 69, 118, 32, 69, 83, 67, 58, 69, 118, 32, 69, 83, 67, 58, 69, 118, 32, 69, 83, 67, 58, 69, 118, 32, 69, 83, 67, 58, 69, 118, 32, 76, 79, 79, 80, 78, 90, 58, 74, 98, 32, 76, 79, 79, 80, 90, 58, 74, 98, 32, 76, 79, 79, 80, 58, 74, 98, 32, 74, 67, 88, 90, 58, 74, 98, 32, 73, 78, 58, 65, 76, 58, 73, 98, 32, 73, 78, 58, 65, 88, 58, 73, 98, 32, 79, 85, 84, 58, 73, 98, 58, 65, 76, 32, 79, 85, 84, 58, 73, 98, 58, 65, 88, 32, 67, 65, 76, 76, 58, 74, 118, 32, 74, 77, 80, 58, 74, 118, 32, 74, 77, 80, 70, 58, 65, 112, 32, 74, 77, 80, 58, 74, 98, 32, 73, 78, 58, 65, 76, 58, 68, 88, 32, 73, 78, 58, 65, 88, 58, 68, 88, 32, 79, 85, 84, 58, 68, 88, 58, 65, 76, 32, 79, 85, 84, 58, 68, 88, 58, 65, 88, 32, 45, 32, 45, 32, 45, 32, 45, 32, 72, 76, 84, 32, 67, 77, 67, 32, 47, 84, 69, 83, 84, 58, 69, 98, 58, 73, 98, 47, 45, 47, 78, 79, 84, 58, 69, 98, 47, 78, 69, 71, 58, 69, 98, 47, 77, 85, 76, 58, 69, 98, 47, 73, 77, 85, 76, 58, 69, 98, 47, 68, 73, 86, 58, 69, 98, 47, 73, 68, 73, 86, 58, 69, 98, 32, 47, 84, 69, 83, 84, 58, 69, 118, 58, 73, 118, 47, 45, 47, 78, 79, 84, 58, 69, 118, 47, 78, 69, 71, 58, 69, 118, 47, 77, 85, 76, 58, 69, 118, 47, 73, 77, 85, 76, 58, 69, 118, 47, 68, 73, 86, 58, 69, 118, 47, 73, 68, 73, 86, 58, 69, 118, 32, 67, 76, 67, 32, 83, 84, 67, 32, 67, 76, 73, 32, 83, 84, 73, 32, 67, 76, 68, 32, 83, 84, 68, 32, 47, 73, 78, 67, 58, 69, 98, 47, 68, 69, 67, 58, 69, 98, 47, 45, 47, 45, 47, 45, 47, 45, 47, 45, 47, 45, 32, 47, 73, 78, 67, 58, 69, 118, 47, 68, 69, 67, 58, 69, 118, 47, 67, 65, 76, 76, 58, 69, 118, 47, 67, 65, 76, 76, 70, 58, 77, 112, 47, 74, 77, 80, 58, 69, 118, 47, 74, 77, 80, 70, 58, 77, 112, 47, 80, 85, 83, 72, 58, 69, 118, 47, 45, 32]
def NAMES : List UInt8 := [65, 68, 68, 32, 79, 82, 32, 65, 68, 67, 32, 83, 66, 66, 32, 65, 78, 68, 32, 83, 85, 66, 32, 88, 79, 82, 32, 67, 77, 80, 32, 80, 85, 83, 72, 32, 80, 79, 80, 32, 68, 65, 65, 32, 68, 65, 83, 32, 65, 65, 65, 32, 65, 65, 83, 32, 73, 78, 67, 32, 68, 69, 67, 32, 74, 79, 32, 74, 78, 79, 32, 74, 66, 32, 74, 78, 66, 32, 74, 90, 32, 74, 78, 90, 32, 74, 66, 69, 32, 74, 65, 32, 74, 83, 32, 74, 78, 83, 32, 74, 80, 32, 74, 78, 80, 32, 74, 76, 32, 74, 71, 69, 32, 74, 76, 69, 32, 74, 71, 32, 84, 69, 83, 84, 32, 88, 67, 72, 71, 32, 77, 79, 86, 32, 76, 69, 65, 32, 67, 66, 87, 32, 67, 87, 68, 32, 67, 65, 76, 76, 32, 67, 65, 76, 76, 70, 32, 87, 65, 73, 84, 32, 80, 85, 83, 72, 70, 32, 80, 79, 80, 70, 32, 83, 65, 72, 70, 32, 76, 65, 72, 70, 32, 77, 79, 86, 83, 66, 32, 77, 79, 86, 83, 87, 32, 67, 77, 80, 83, 66, 32, 67, 77, 80, 83, 87, 32, 83, 84, 79, 83, 66, 32, 83, 84, 79, 83, 87, 32, 76, 79, 68, 83, 66, 32, 76, 79, 68, 83, 87, 32, 83, 67, 65, 83, 66, 32, 83, 67, 65, 83, 87, 32, 82, 69, 84, 32, 82, 69, 84, 70, 32, 76, 69, 83, 32, 76, 68, 83, 32, 73, 78, 84, 32, 73, 78, 84, 79, 32, 73, 82, 69, 84, 32, 82, 79, 76, 32, 82, 79, 82, 32, 82, 67, 76, 32, 82, 67, 82, 32, 83, 72, 76, 32, 83, 72, 82, 32, 83, 65, 82, 32, 65, 65, 77, 32, 65, 65, 68, 32, 88, 76, 65, 84, 32, 69, 83, 67, 32, 76, 79, 79, 80, 78, 90, 32, 76, 79, 79, 80, 90, 32, 76, 79, 79, 80, 32, 74, 67, 88, 90, 32, 73, 78, 32, 79, 85, 84, 32, 74, 77, 80, 32, 74, 77, 80, 70, 32, 72, 76, 84, 32, 67, 77, 67, 32, 78, 79, 84, 32, 78, 69, 71, 32, 77, 85, 76, 32, 73, 77, 85, 76, 32, 68, 73, 86, 32, 73, 68, 73, 86, 32, 67, 76, 67, 32, 83, 84, 67, 32, 67, 76, 73, 32, 83, 84, 73, 32, 67, 76, 68, 32, 83, 84, 68, 32]
def KINDS : List UInt8 := [69, 98, 32, 69, 118, 32, 71, 98, 32, 71, 118, 32, 83, 119, 32, 73, 98, 32, 73, 118, 32, 73, 115, 32, 74, 98, 32, 74, 118, 32, 65, 112, 32, 79, 98, 32, 79, 118, 32, 65, 76, 32, 67, 76, 32, 65, 88, 32, 68, 88, 32, 79, 110, 101, 32, 77, 112, 32, 77, 32, 90, 98, 32, 90, 118, 32, 90, 115, 32, 84, 104, 114, 101, 101, 32]
def LIT : List (List (Nat × Nat × Nat)) := [[(1, 1, 3)],
  [(1, 2, 4)],
  [(1, 3, 1)],
  [(1, 4, 2)],
  [(1, 14, 6)],
  [(1, 16, 7)],
  [(9, 23, 0)],
  [(10, 23, 0)],
  [(2, 1, 3)],
  [(2, 2, 4)],
  [(2, 3, 1)],
  [(2, 4, 2)],
  [(2, 14, 6)],
  [(2, 16, 7)],
  [(9, 23, 0)],
  [(0, 0, 0)],
  [(3, 1, 3)],
  [(3, 2, 4)],
  [(3, 3, 1)],
  [(3, 4, 2)],
  [(3, 14, 6)],
  [(3, 16, 7)],
  [(9, 23, 0)],
  [(10, 23, 0)],
  [(4, 1, 3)],
  [(4, 2, 4)],
  [(4, 3, 1)],
  [(4, 4, 2)],
  [(4, 14, 6)],
  [(4, 16, 7)],
  [(9, 23, 0)],
  [(10, 23, 0)],
  [(5, 1, 3)],
  [(5, 2, 4)],
  [(5, 3, 1)],
  [(5, 4, 2)],
  [(5, 14, 6)],
  [(5, 16, 7)],
  [(0, 0, 0)],
  [(11, 0, 0)],
  [(6, 1, 3)],
  [(6, 2, 4)],
  [(6, 3, 1)],
  [(6, 4, 2)],
  [(6, 14, 6)],
  [(6, 16, 7)],
  [(0, 0, 0)],
  [(12, 0, 0)],
  [(7, 1, 3)],
  [(7, 2, 4)],
  [(7, 3, 1)],
  [(7, 4, 2)],
  [(7, 14, 6)],
  [(7, 16, 7)],
  [(0, 0, 0)],
  [(13, 0, 0)],
  [(8, 1, 3)],
  [(8, 2, 4)],
  [(8, 3, 1)],
  [(8, 4, 2)],
  [(8, 14, 6)],
  [(8, 16, 7)],
  [(0, 0, 0)],
  [(14, 0, 0)],
  [(15, 22, 0)],
  [(15, 22, 0)],
  [(15, 22, 0)],
  [(15, 22, 0)],
  [(15, 22, 0)],
  [(15, 22, 0)],
  [(15, 22, 0)],
  [(15, 22, 0)],
  [(16, 22, 0)],
  [(16, 22, 0)],
  [(16, 22, 0)],
  [(16, 22, 0)],
  [(16, 22, 0)],
  [(16, 22, 0)],
  [(16, 22, 0)],
  [(16, 22, 0)],
  [(9, 22, 0)],
  [(9, 22, 0)],
  [(9, 22, 0)],
  [(9, 22, 0)],
  [(9, 22, 0)],
  [(9, 22, 0)],
  [(9, 22, 0)],
  [(9, 22, 0)],
  [(10, 22, 0)],
  [(10, 22, 0)],
  [(10, 22, 0)],
  [(10, 22, 0)],
  [(10, 22, 0)],
  [(10, 22, 0)],
  [(10, 22, 0)],
  [(10, 22, 0)],
  [(0, 0, 0)],
  [(0, 0, 0)],
  [(0, 0, 0)],
  [(0, 0, 0)],
  [(0, 0, 0)],
  [(0, 0, 0)],
  [(0, 0, 0)],
  [(0, 0, 0)],
  [(0, 0, 0)],
  [(0, 0, 0)],
  [(0, 0, 0)],
  [(0, 0, 0)],
  [(0, 0, 0)],
  [(0, 0, 0)],
  [(0, 0, 0)],
  [(0, 0, 0)],
  [(17, 9, 0)],
  [(18, 9, 0)],
  [(19, 9, 0)],
  [(20, 9, 0)],
  [(21, 9, 0)],
  [(22, 9, 0)],
  [(23, 9, 0)],
  [(24, 9, 0)],
  [(25, 9, 0)],
  [(26, 9, 0)],
  [(27, 9, 0)],
  [(28, 9, 0)],
  [(29, 9, 0)],
  [(30, 9, 0)],
  [(31, 9, 0)],
  [(32, 9, 0)],
  [(1, 1, 6), (2, 1, 6), (3, 1, 6), (4, 1, 6), (5, 1, 6), (6, 1, 6), (7, 1, 6), (8, 1, 6)],
  [(1, 2, 7), (2, 2, 7), (3, 2, 7), (4, 2, 7), (5, 2, 7), (6, 2, 7), (7, 2, 7), (8, 2, 7)],
  [(0, 0, 0)],
  [(1, 2, 8), (0, 0, 0), (3, 2, 8), (4, 2, 8), (0, 0, 0), (6, 2, 8), (0, 0, 0), (8, 2, 8)],
  [(33, 1, 3)],
  [(33, 2, 4)],
  [(34, 1, 3)],
  [(34, 2, 4)],
  [(35, 1, 3)],
  [(35, 2, 4)],
  [(35, 3, 1)],
  [(35, 4, 2)],
  [(35, 2, 5), (35, 2, 5), (35, 2, 5), (35, 2, 5), (0, 0, 0), (0, 0, 0), (0, 0, 0), (0, 0, 0)],
  [(36, 4, 20)],
  [(35, 5, 2), (0, 0, 0), (35, 5, 2), (35, 5, 2), (0, 0, 0), (0, 0, 0), (0, 0, 0), (0, 0, 0)],
  [(10, 2, 0), (0, 0, 0), (0, 0, 0), (0, 0, 0), (0, 0, 0), (0, 0, 0), (0, 0, 0), (0, 0, 0)],
  [(34, 16, 22)],
  [(34, 16, 22)],
  [(34, 16, 22)],
  [(34, 16, 22)],
  [(34, 16, 22)],
  [(34, 16, 22)],
  [(34, 16, 22)],
  [(34, 16, 22)],
  [(37, 0, 0)],
  [(38, 0, 0)],
  [(40, 11, 0)],
  [(41, 0, 0)],
  [(42, 0, 0)],
  [(43, 0, 0)],
  [(44, 0, 0)],
  [(45, 0, 0)],
  [(35, 14, 12)],
  [(35, 16, 13)],
  [(35, 12, 14)],
  [(35, 13, 16)],
  [(46, 0, 0)],
  [(47, 0, 0)],
  [(48, 0, 0)],
  [(49, 0, 0)],
  [(33, 14, 6)],
  [(33, 16, 7)],
  [(50, 0, 0)],
  [(51, 0, 0)],
  [(52, 0, 0)],
  [(53, 0, 0)],
  [(54, 0, 0)],
  [(55, 0, 0)],
  [(35, 21, 6)],
  [(35, 21, 6)],
  [(35, 21, 6)],
  [(35, 21, 6)],
  [(35, 21, 6)],
  [(35, 21, 6)],
  [(35, 21, 6)],
  [(35, 21, 6)],
  [(35, 22, 7)],
  [(35, 22, 7)],
  [(35, 22, 7)],
  [(35, 22, 7)],
  [(35, 22, 7)],
  [(35, 22, 7)],
  [(35, 22, 7)],
  [(35, 22, 7)],
  [(0, 0, 0)],
  [(0, 0, 0)],
  [(56, 7, 0)],
  [(56, 0, 0)],
  [(58, 4, 19)],
  [(59, 4, 19)],
  [(35, 1, 6), (0, 0, 0), (0, 0, 0), (0, 0, 0), (0, 0, 0), (0, 0, 0), (0, 0, 0), (0, 0, 0)],
  [(35, 2, 7), (0, 0, 0), (0, 0, 0), (0, 0, 0), (0, 0, 0), (0, 0, 0), (0, 0, 0), (0, 0, 0)],
  [(0, 0, 0)],
  [(0, 0, 0)],
  [(57, 7, 0)],
  [(57, 0, 0)],
  [(60, 24, 0)],
  [(60, 6, 0)],
  [(61, 0, 0)],
  [(62, 0, 0)],
  [(63, 1, 18), (64, 1, 18), (65, 1, 18), (66, 1, 18), (67, 1, 18), (68, 1, 18), (0, 0, 0), (69, 1, 18)],
  [(63, 2, 18), (64, 2, 18), (65, 2, 18), (66, 2, 18), (67, 2, 18), (68, 2, 18), (0, 0, 0), (69, 2, 18)],
  [(63, 1, 15), (64, 1, 15), (65, 1, 15), (66, 1, 15), (67, 1, 15), (68, 1, 15), (0, 0, 0), (69, 1, 15)],
  [(63, 2, 15), (64, 2, 15), (65, 2, 15), (66, 2, 15), (67, 2, 15), (68, 2, 15), (0, 0, 0), (69, 2, 15)],
  [(70, 6, 0)],
  [(71, 6, 0)],
  [(0, 0, 0)],
  [(72, 0, 0)],
  [(73, 2, 0)],
  [(73, 2, 0)],
  [(73, 2, 0)],
  [(73, 2, 0)],
  [(73, 2, 0)],
  [(73, 2, 0)],
  [(73, 2, 0)],
  [(73, 2, 0)],
  [(74, 9, 0)],
  [(75, 9, 0)],
  [(76, 9, 0)],
  [(77, 9, 0)],
  [(78, 14, 6)],
  [(78, 16, 6)],
  [(79, 6, 14)],
  [(79, 6, 16)],
  [(39, 10, 0)],
  [(80, 10, 0)],
  [(81, 11, 0)],
  [(80, 9, 0)],
  [(78, 14, 17)],
  [(78, 16, 17)],
  [(79, 17, 14)],
  [(79, 17, 16)],
  [(0, 0, 0)],
  [(0, 0, 0)],
  [(0, 0, 0)],
  [(0, 0, 0)],
  [(82, 0, 0)],
  [(83, 0, 0)],
  [(33, 1, 6), (0, 0, 0), (84, 1, 0), (85, 1, 0), (86, 1, 0), (87, 1, 0), (88, 1, 0), (89, 1, 0)],
  [(33, 2, 7), (0, 0, 0), (84, 2, 0), (85, 2, 0), (86, 2, 0), (87, 2, 0), (88, 2, 0), (89, 2, 0)],
  [(90, 0, 0)],
  [(91, 0, 0)],
  [(92, 0, 0)],
  [(93, 0, 0)],
  [(94, 0, 0)],
  [(95, 0, 0)],
  [(15, 1, 0), (16, 1, 0), (0, 0, 0), (0, 0, 0), (0, 0, 0), (0, 0, 0), (0, 0, 0), (0, 0, 0)],
  [(15, 2, 0), (16, 2, 0), (39, 2, 0), (40, 19, 0), (80, 2, 0), (81, 19, 0), (9, 2, 0), (0, 0, 0)]]
/-! ### the table, reckoned with numbers -/
def skipN : List Nat → List Nat
  | [] => []
  | c :: r => if c = 32 then r else skipN r
def takeN : List Nat → List Nat
  | [] => []
  | c :: r => if c = 32 then [] else c :: takeN r
def fndN (w : List Nat) : List Nat → List Nat → Nat → Nat
  | [], _, _ => 0
  | c :: r, cur, n => if c = 32 then (if cur = w then n else fndN w r [] (n + 1)) else fndN w r (cur ++ [c]) n
def prtN (mark : Nat) : List Nat → List Nat → Nat → List Nat
  | [], cur, n => if n = 0 then cur else []
  | c :: r, cur, n => if c = mark then (if n = 0 then cur else prtN mark r [] (n - 1)) else prtN mark r (cur ++ [c]) n
def nat (s : List UInt8) : List Nat := s.map UInt8.toNat
theorem nat_inj {a b : List UInt8} : nat a = nat b ↔ a = b := by
  constructor
  · intro h
    exact List.map_inj_right (fun x y h => UInt8.toNat_inj.1 h) |>.1 h
  · intro h; rw [h]
theorem nat_skip (s : List UInt8) : nat (skipU s) = skipN (nat s) := by
  induction s with
  | nil => rfl
  | cons c r ih =>
    simp only [skipU, nat, List.map_cons, skipN]
    split
    · rfl
    · exact ih
theorem nat_take (s : List UInt8) : nat (takeU s) = takeN (nat s) := by
  induction s with
  | nil => rfl
  | cons c r ih =>
    simp only [takeU, nat, List.map_cons, takeN]
    split
    · rfl
    · simp only [List.map_cons, List.cons.injEq, true_and]; exact ih
theorem nat_fnd (w : List UInt8) : ∀ (s cur : List UInt8) (n : Nat), fndU w s cur n = fndN (nat w) (nat s) (nat cur) n
  | [], cur, n => rfl
  | c :: r, cur, n => by
    have e1 := nat_fnd w r [] (n + 1)
    have e2 := nat_fnd w r (cur ++ [c]) n
    simp only [nat, List.map_append, List.map_cons, List.map_nil] at e1 e2
    simp only [fndU, nat, List.map_cons, fndN, e1, e2]
    have e3 : (List.map UInt8.toNat cur = List.map UInt8.toNat w) = (cur = w) := propext nat_inj
    simp only [e3]
theorem nat_prt (m : Nat) : ∀ (s cur : List UInt8) (n : Nat), nat (prtU m s cur n) = prtN m (nat s) (nat cur) n
  | [], cur, n => by simp only [prtU, nat, List.map_nil, prtN]; split <;> rfl
  | c :: r, cur, n => by
    have e1 := nat_prt m r [] (n - 1)
    have e2 := nat_prt m r (cur ++ [c]) n
    simp only [nat, List.map_append, List.map_cons, List.map_nil] at e1 e2
    simp only [prtU, nat, List.map_cons, prtN]
    split
    · split
      · rfl
      · exact e1
    · exact e2
theorem prtU_len (m : Nat) : ∀ (s cur : List UInt8) (n : Nat), (prtU m s cur n).length ≤ s.length + cur.length
  | [], cur, n => by simp only [prtU]; split <;> simp
  | c :: r, cur, n => by
    have e1 := prtU_len m r [] (n - 1)
    have e2 := prtU_len m r (cur ++ [c]) n
    simp only [List.length_append, List.length_cons, List.length_nil] at e1 e2
    simp only [prtU, List.length_cons]
    split
    · split <;> omega
    · omega
/-- the words of a text -/
def wordsN : Nat → List Nat → List (List Nat)
  | 0, _ => []
  | n + 1, s => takeN s :: wordsN n (skipN s)
theorem wordsN_get : ∀ (n i : Nat) (s : List UInt8), i < n → (wordsN n (nat s))[i]? = some (nat (wordU s i))
  | 0, i, s, h => by omega
  | n + 1, 0, s, h => by simp [wordsN, wordU, nat_take]
  | n + 1, i + 1, s, h => by
    simp only [wordsN, List.getElem?_cons_succ, ← nat_skip, wordU]
    exact wordsN_get n i (skipU s) (by omega)
def sec (k : Nat) : Bool := (1 ≤ k && k ≤ 5) || k == 19 || k == 20
def rowN (e : List Nat) : Nat × Nat × Nat :=
  if e = [45] ∨ e = [] then (0, 0, 0) else (fndN (prtN 58 e [] 0) (nat NAMES) [] 1, fndN (prtN 58 e [] 1) (nat KINDS) [] 1, fndN (prtN 58 e [] 2) (nat KINDS) [] 1)
def rowsN (w : List Nat) : List (Nat × Nat × Nat) := if w.head? = some 47 then (List.range 8).map fun k => rowN (prtN 47 w [] (k + 1)) else [rowN w]
theorem lit_words : (wordsN 256 (nat TBL)).map rowsN = LIT := by kernel_rfl
theorem lit_names : LIT.all (fun l => l.all fun x => (x.1 == 0) == (x == (0, 0, 0))) = true := by kernel_rfl
theorem wordsN_len : ∀ (n : Nat) (s : List Nat), (wordsN n s).length = n
  | 0, s => rfl
  | n + 1, s => by simp [wordsN, wordsN_len n]
/-! ### what a first byte says -/
def entN (w : List Nat) : List (List Nat) := if w.head? = some 47 then (List.range 8).map fun k => prtN 47 w [] (k + 1) else [w]
theorem rowsN_ent (w : List Nat) : rowsN w = (entN w).map rowN := by
  unfold rowsN entN
  split
  · rw [List.map_map]; rfl
  · rfl
theorem lit_ok : (wordsN 256 (nat TBL)).all (fun w => (entN w).all fun e => decide (e = [45]) || decide (e = []) || !((rowN e).1 == 0)) = true := by kernel_rfl
def rw' (x : Nat × Nat × Nat) : Row × Bool := if x.1 = 0 then (⟨0, 0, 0, false⟩, false) else (⟨x.1, x.2.1, x.2.2, sec x.2.1 || sec x.2.2⟩, true)
def look (op k : Nat) : Nat × Nat × Nat := match LIT[op]? with
  | some l => if l.length = 1 then l.getD 0 (0, 0, 0) else l.getD k (0, 0, 0)
  | none => (0, 0, 0)
theorem tbl_len : TBL.length ≤ 100000 := by decide
theorem takeU_le (s : List UInt8) : (takeU s).length ≤ s.length := takeU_len s
theorem skipU_le : ∀ (s : List UInt8), (skipU s).length ≤ s.length
  | [] => by simp [skipU]
  | c :: r => by
    have := skipU_le r
    simp only [skipU, List.length_cons]
    split <;> omega
theorem wordU_len : ∀ (n : Nat) (s : List UInt8), (wordU s n).length ≤ s.length
  | 0, s => takeU_len s
  | n + 1, s => Nat.le_trans (wordU_len n (skipU s)) (skipU_le s)
theorem nat_head (w : List UInt8) : (nat w).head? = w.head?.map UInt8.toNat := by cases w <;> rfl
theorem lit_at (op : Nat) (h : op < 256) : LIT[op]? = some (rowsN (nat (wordU TBL op))) := by
  rw [← lit_words, List.getElem?_map, wordsN_get 256 op TBL h]; rfl
theorem ent_ok (op : Nat) (h : op < 256) : ∀ e ∈ entN (nat (wordU TBL op)), e = [45] ∨ e = [] ∨ (rowN e).1 ≠ 0 := by
  intro e he
  have h1 := lit_ok
  rw [List.all_eq_true] at h1
  have h2 := h1 (nat (wordU TBL op)) (List.mem_of_getElem? (wordsN_get 256 op TBL h))
  rw [List.all_eq_true] at h2
  have h3 := h2 e he
  simp only [Bool.or_eq_true, decide_eq_true_eq, Bool.not_eq_true', beq_eq_false_iff_ne] at h3
  rcases h3 with (h3 | h3) | h3
  · exact .inl h3
  · exact .inr (.inl h3)
  · exact .inr (.inr h3)
theorem entry_spec (op : Nat) (h : op < 256) (reg : Int) : ∃ e, hansomref04_Entry (op : Int) reg = some e ∧ e.length ≤ 100000 ∧ nat e ∈ entN (nat (wordU TBL op)) ∧ look op (reg % 8).toNat = rowN (nat e) := by
  have w0 : IntKind.wrap .i64 (op : Int) = (op : Int) := wrap64 (by omega) (by omega)
  have hw := word_spec TBL op tbl_len (by omega)
  have hl := wordU_len op TBL
  have ht := tbl_len
  have a7 : bitsOp .and .i64 reg 7 = reg % 8 := and_mask reg 3 (by omega)
  have hk : reg % 8 = (((reg % 8).toNat : Nat) : Int) := by omega
  have hk8 : (reg % 8).toNat < 8 := by omega
  unfold hansomref04_Entry
  show ∃ e, ((hansomref04_word TBL (IntKind.wrap .i64 (op : Int))).bind _) = some e ∧ _
  rw [w0, hw, Option.bind_some]
  have hla := lit_at op h
  generalize wordU TBL op = w at *
  unfold look
  rw [hla]
  cases w with
  | nil =>
    simp only [List.length_nil, Int.natCast_zero, show ¬ (0 : Int) > 0 from by omega, decide_false, Bool.false_eq_true, if_false]
    exact ⟨[], rfl, by simp, by simp [entN, nat], by simp [rowsN, nat]⟩
  | cons c r =>
    simp only [show (((c :: r).length : Nat) : Int) > 0 from by simp, decide_true, if_true]
    rw [show idx (c :: r) 0 = some c from rfl, Option.bind_some]
    by_cases hc : c.toNat = 47
    · have hc' : (((c.toNat : Nat) : Int) == 47) = true := by simp [hc]
      simp only [hc', if_true, a7]
      rw [hk, wrap64 (by omega) (by omega)]
      have hp := part_spec (c :: r) 47 ((reg % 8).toNat + 1) (by omega) (by omega)
      rw [show (((reg % 8).toNat : Nat) : Int) + 1 = (((reg % 8).toNat + 1 : Nat) : Int) from by omega]
      rw [show ((47 : Nat) : Int) = 47 from rfl] at hp
      rw [hp, Option.bind_some]
      have hlen := prtU_len 47 (c :: r) [] ((reg % 8).toNat + 1)
      have hn : (nat (c :: r)).head? = some 47 := by rw [nat_head]; simp [hc]
      refine ⟨_, rfl, by simp only [List.length_nil] at hlen; omega, ?_, ?_⟩
      · rw [nat_prt]
        unfold entN
        rw [if_pos hn]
        exact List.mem_map.2 ⟨(reg % 8).toNat, List.mem_range.2 hk8, rfl⟩
      · rw [nat_prt]
        simp only [rowsN, hn, if_true]
        have e1 : ((List.range 8).map fun k => rowN (prtN 47 (nat (c :: r)) [] (k + 1))).length = 8 := by simp
        rw [e1, if_neg (by omega), List.getD_eq_getElem?_getD, List.getElem?_map, Int.toNat_natCast, List.getElem?_range hk8]
        rfl
    · have hc' : (((c.toNat : Nat) : Int) == 47) = false := by simp; omega
      simp only [hc', Bool.false_eq_true, if_false]
      have hn : ¬ (nat (c :: r)).head? = some 47 := by rw [nat_head]; simp [hc]
      refine ⟨_, rfl, by omega, ?_, ?_⟩
      · unfold entN; rw [if_neg hn]; simp
      · simp [rowsN, hn]
theorem second_spec (k : Nat) : hansomref04_second (k : Int) = some (sec k) := by
  by_cases hk : k < 21
  · have : ∀ k : Fin 21, hansomref04_second (k.val : Int) = some (sec k.val) := by decide
    exact this ⟨k, hk⟩
  · unfold hansomref04_second sec
    have h1 : (k : Int) ≥ 1 := by omega
    have h2 : ¬ (k : Int) ≤ 5 := by omega
    have h3 : ((k : Int) == 19) = false := by simp; omega
    have h4 : ((k : Int) == 20) = false := by simp; omega
    have n1 : ¬ k ≤ 5 := by omega
    have n2 : (k == 19) = false := by simp; omega
    have n3 : (k == 20) = false := by simp; omega
    simp only [h1, h2, h3, h4, n1, n2, n3, decide_true, decide_false, if_true, Bool.false_eq_true, if_false, Bool.and_false, Bool.or_false]
theorem row_spec (op : Nat) (h : op < 256) (reg : Int) : hansomref04_Row (op : Int) reg = some (rw' (look op (reg % 8).toNat)) := by
  obtain ⟨e, h1, h2, h3, h4⟩ := entry_spec op h reg
  have hok := ent_ok op h _ h3
  unfold hansomref04_Row
  rw [h1, Option.bind_some, h4]
  have b1 : (e == [45]) = decide (nat e = [45]) := by
    rw [Bool.eq_iff_iff]; simp only [beq_iff_eq, decide_eq_true_eq]; exact (nat_inj (b := [45])).symm
  have b2 : (e == []) = decide (nat e = []) := by
    rw [Bool.eq_iff_iff]; simp only [beq_iff_eq, decide_eq_true_eq]; exact (nat_inj (b := [])).symm
  simp only [b1, b2]
  by_cases c1 : nat e = [45]
  · simp [c1, rw', rowN]
  by_cases c2 : nat e = []
  · simp [c2, rw', rowN]
  simp only [c1, c2, decide_false, Bool.false_eq_true, if_false]
  have hne : (rowN (nat e)).1 ≠ 0 := by
    rcases hok with h | h | h
    · exact absurd h c1
    · exact absurd h c2
    · exact h
  have p0 : hansomref04_part e 58 0 = some (prtU 58 e [] 0) := part_spec e 58 0 h2 (by omega)
  have p1 : hansomref04_part e 58 1 = some (prtU 58 e [] 1) := part_spec e 58 1 h2 (by omega)
  have p2 : hansomref04_part e 58 2 = some (prtU 58 e [] 2) := part_spec e 58 2 h2 (by omega)
  have f0 : hansomref04_Find (prtU 58 e [] 0) = some ((fndU (prtU 58 e [] 0) NAMES [] 1 : Nat) : Int) := by
    unfold hansomref04_Find
    show ((hansomref04_find NAMES _).bind _) = _
    rw [find_spec NAMES _ (by decide)]; rfl
  have f1 := find_spec KINDS (prtU 58 e [] 1) (by decide)
  have f2 := find_spec KINDS (prtU 58 e [] 2) (by decide)
  rw [p0, Option.bind_some, f0, Option.bind_some, p1, Option.bind_some]
  show ((hansomref04_find KINDS (prtU 58 e [] 1)).bind _) = _
  rw [f1, Option.bind_some, p2, Option.bind_some]
  show ((hansomref04_find KINDS (prtU 58 e [] 2)).bind _) = _
  rw [f2, Option.bind_some, second_spec, Option.bind_some, second_spec]
  have q0 : rowN (nat e) = (fndU (prtU 58 e [] 0) NAMES [] 1, fndU (prtU 58 e [] 1) KINDS [] 1, fndU (prtU 58 e [] 2) KINDS [] 1) := by
    unfold rowN
    rw [if_neg (by rintro (h | h); exact c1 h; exact c2 h), nat_fnd, nat_fnd, nat_fnd, nat_prt, nat_prt, nat_prt]
    rfl
  rw [q0] at hne ⊢
  unfold rw'
  rw [if_neg hne]
  simp only
  cases sec (fndU (prtU 58 e [] 1) KINDS [] 1) <;> simp
theorem of_lit : ∀ op : Fin 256, ∀ k : Fin 8, isa_Of (op.val : Int) (k.val : Int) = some (rw' (look op.val k.val)) := by decide +kernel
theorem of_mod (op reg : Int) : isa_Of op reg = isa_Of op (reg % 8) := by
  have a1 : bitsOp .and .i64 reg 7 = reg % 8 := and_mask reg 3 (by omega)
  have a2 : bitsOp .and .i64 (reg % 8) 7 = reg % 8 % 8 := and_mask _ 3 (by omega)
  unfold isa_Of
  rw [a1, a2, Int.emod_emod]
theorem of_spec (op : Nat) (h : op < 256) (reg : Int) : isa_Of (op : Int) reg = some (rw' (look op (reg % 8).toNat)) := by
  rw [of_mod]
  have := of_lit ⟨op, h⟩ ⟨(reg % 8).toNat, by omega⟩
  simp only at this
  rw [show (((reg % 8).toNat : Nat) : Int) = reg % 8 from by omega] at this
  exact this
theorem awake_true : hansomlaw04_awake = some true := by
  unfold hansomlaw04_awake
  have h1 : isa_Of 144 0 = some (rw' (look 144 0)) := of_spec 144 (by omega) 0
  have h2 : isa_Of 15 0 = some (rw' (look 15 0)) := of_spec 15 (by omega) 0
  rw [h1, h2]
  decide +kernel
def grp (op : Nat) : Bool := (match LIT[op]? with | some l => l.length == 8 | none => false) && op != 140 && op != 142
theorem isaGrouped : ∀ op : Fin 256, isa_Grouped (op.val : Int) = some (grp op.val) := by decide +kernel
theorem refGrouped (op : Nat) (h : op < 256) : hansomref04_Grouped (op : Int) = some (grp op) := by
  have w0 : IntKind.wrap .i64 (op : Int) = (op : Int) := wrap64 (by omega) (by omega)
  have hw := word_spec TBL op tbl_len (by omega)
  have hla := lit_at op h
  unfold hansomref04_Grouped grp
  show ((hansomref04_word TBL (IntKind.wrap .i64 (op : Int))).bind _) = _
  rw [w0, hw, Option.bind_some, hla]
  generalize wordU TBL op = w at *
  cases w with
  | nil => simp [rowsN, nat]
  | cons c r =>
    have hlen : (((c :: r).length : Nat) : Int) > 0 := by simp
    simp only [hlen, decide_true, if_true]
    rw [show idx (c :: r) 0 = some c from rfl, Option.bind_some]
    by_cases hc : c.toNat = 47
    · have hc' : (((c.toNat : Nat) : Int) == 47) = true := by simp [hc]
      have hn : (nat (c :: r)).head? = some 47 := by rw [nat_head]; simp [hc]
      simp only [hc', if_true, rowsN, hn]
      by_cases e1 : op = 140
      · subst e1; simp
      · have : ((op : Int) != 140) = true := by simp; omega
        have e1' : (op != 140) = true := by simp [e1]
        simp only [this, if_true, e1', Bool.and_true, List.length_map, List.length_range, beq_self_eq_true, Bool.true_and]
        congr 1
        rw [Bool.eq_iff_iff]; simp; omega
    · have hc' : (((c.toNat : Nat) : Int) == 47) = false := by simp; omega
      have hn : ¬ (nat (c :: r)).head? = some 47 := by rw [nat_head]; simp [hc]
      simp [hc', rowsN, hn]
end Go.Es.Iaa
