
/- What the functions answer, in plain Lean. No condition. -/
import Derived.Test.YtikbjljifgadmaaDoorDsoP
import Derived.KernelRfl
set_option linter.unusedVariables false
set_option linter.unusedSimpArgs false
set_option maxHeartbeats 4000000
set_option maxRecDepth 100000
namespace Go.Es.Dso

/-- Some rounds of a loop, told by reckoning. -/
def iterO {α β : Type} (f : α → Option (Lp α β)) : Nat → α → Option β
  | 0, _ => none
  | n + 1, x => match f x with
    | some (.next y) => iterO f n y
    | some (.out b) => some b
    | none => none
/-! ### texts -/
def skipU : List UInt8 → List UInt8
  | [] => []
  | c :: r => if c.toNat = 32 then r else skipU r
def takeU : List UInt8 → List UInt8
  | [] => []
  | c :: r => if c.toNat = 32 then [] else c :: takeU r
def wordU (s : List UInt8) : Nat → List UInt8
  | 0 => takeU s
  | n + 1 => wordU (skipU s) n
def fndU (w : List UInt8) : List UInt8 → List UInt8 → Nat → Nat
  | [], _, _ => 0
  | c :: r, cur, n => if c.toNat = 32 then (if cur = w then n else fndU w r [] (n + 1)) else fndU w r (cur ++ [c]) n
def prtU (mark : Nat) : List UInt8 → List UInt8 → Nat → List UInt8
  | [], cur, n => if n = 0 then cur else []
  | c :: r, cur, n => if c.toNat = mark then (if n = 0 then cur else prtU mark r [] (n - 1)) else prtU mark r (cur ++ [c]) n
theorem takeU_len (s : List UInt8) : (takeU s).length ≤ s.length := by
  induction s with
  | nil => simp [takeU]
  | cons c r ih => unfold takeU; split <;> simp; omega
theorem takeU_take (s : List UInt8) : takeU s = s.take (takeU s).length := by
  induction s with
  | nil => simp [takeU]
  | cons c r ih =>
    unfold takeU
    split
    · simp
    · simp only [List.length_cons, List.take_succ_cons]; rw [← ih]
theorem skipU_drop (s : List UInt8) : skipU s = s.drop ((takeU s).length + 1) := by
  induction s with
  | nil => simp [skipU]
  | cons c r ih =>
    unfold skipU takeU
    split
    · simp
    · simp only [List.length_cons, List.drop_succ_cons]; exact ih
theorem word_in (s : List UInt8) (n k : Int) (a : Nat) (ha : a ≤ s.length) (hs : s.length ≤ 100000) :
    loopO (fun x : Int => hansomref04_word_l19 s n x k) (a : Int) = some ((a + (takeU (s.drop a)).length : Nat) : Int) := by
  refine loop_to (f := fun x : Int => hansomref04_word_l19 s n x k) (fun x => ((x.toNat + (takeU (s.drop x.toNat)).length : Nat) : Int)) (fun x => ∃ b : Nat, x = (b : Int) ∧ b ≤ s.length) (fun x => (s.length - x).toNat) (fun x hx => ?_) ⟨a, rfl, ha⟩
  obtain ⟨b, rfl, hb⟩ := hx
  unfold hansomref04_word_l19
  by_cases hlt : b < s.length
  · simp only [show (b : Int) < (s.length : Int) from by omega, decide_true, if_true, idx_nat hlt, Option.bind_some, Int.toNat_natCast]
    by_cases hc : s[b].toNat = 32
    · right
      have : takeU (s.drop b) = [] := by rw [List.drop_eq_getElem_cons hlt]; simp [takeU, hc]
      simp [hc, this]
    · left
      have hc' : (((s[b].toNat : Nat) : Int) != 32) = true := by simp; omega
      have w : IntKind.wrap .i64 ((b : Int) + 1) = ((b + 1 : Nat) : Int) := by rw [wrap64 (by omega) (by omega)]; omega
      refine ⟨((b + 1 : Nat) : Int), by simp only [hc', if_true, w], ⟨b + 1, rfl, by omega⟩, by omega, ?_⟩
      have : takeU (s.drop b) = s[b] :: takeU (s.drop (b + 1)) := by rw [List.drop_eq_getElem_cons hlt]; simp [takeU, hc]
      rw [this, Int.toNat_natCast, List.length_cons]
      omega
  · right
    have : b = s.length := by omega
    subst this
    simp [takeU]
theorem word_end (s : List UInt8) (e : Int) (a : Nat) (ha : a ≤ s.length + 1) (hs : s.length ≤ 100000) :
    loopO (fun x : Int => hansomref04_word_l34 s e x) (a : Int) = some ((a + (takeU (s.drop a)).length : Nat) : Int) := by
  refine loop_to (f := fun x : Int => hansomref04_word_l34 s e x) (fun x => ((x.toNat + (takeU (s.drop x.toNat)).length : Nat) : Int)) (fun x => ∃ b : Nat, x = (b : Int) ∧ b ≤ s.length + 1) (fun x => (s.length - x).toNat) (fun x hx => ?_) ⟨a, rfl, ha⟩
  obtain ⟨b, rfl, hb⟩ := hx
  unfold hansomref04_word_l34
  by_cases hlt : b < s.length
  · simp only [show (b : Int) < (s.length : Int) from by omega, decide_true, if_true, idx_nat hlt, Option.bind_some, Int.toNat_natCast]
    by_cases hc : s[b].toNat = 32
    · right
      have : takeU (s.drop b) = [] := by rw [List.drop_eq_getElem_cons hlt]; simp [takeU, hc]
      simp [hc, this]
    · left
      have hc' : (((s[b].toNat : Nat) : Int) != 32) = true := by simp; omega
      have w : IntKind.wrap .i64 ((b : Int) + 1) = ((b + 1 : Nat) : Int) := by rw [wrap64 (by omega) (by omega)]; omega
      refine ⟨((b + 1 : Nat) : Int), by simp only [hc', if_true, w], ⟨b + 1, rfl, by omega⟩, by omega, ?_⟩
      have : takeU (s.drop b) = s[b] :: takeU (s.drop (b + 1)) := by rw [List.drop_eq_getElem_cons hlt]; simp [takeU, hc]
      rw [this, Int.toNat_natCast, List.length_cons]
      omega
  · right
    have : s.drop b = [] := List.drop_of_length_le (by omega)
    simp only [show ¬ (b : Int) < (s.length : Int) from by omega, decide_false, Bool.false_eq_true, if_false, Int.toNat_natCast, this, takeU]
    simp
def skips : Nat → List UInt8 → List UInt8
  | 0, s => s
  | n + 1, s => skips n (skipU s)
theorem skips_nil : ∀ n, skips n [] = []
  | 0 => rfl
  | n + 1 => skips_nil n
theorem wordU_skips : ∀ (n : Nat) (s : List UInt8), wordU s n = takeU (skips n s)
  | 0, s => rfl
  | n + 1, s => wordU_skips n (skipU s)
theorem word_spec (s : List UInt8) (n : Nat) (hs : s.length ≤ 100000) (hn : n ≤ 100000) : hansomref04_word s (n : Int) = some (wordU s n) := by
  unfold hansomref04_word
  obtain ⟨b, h1, a, h2, h3, h4⟩ := loop_rule (f := fun x : Int × Int => hansomref04_word_l8 s (n : Int) x.1 x.2) (fun x => ∃ a k : Nat, x = ((a : Int), (k : Int)) ∧ a ≤ s.length + 1 ∧ k ≤ n ∧ skips (n - k) (s.drop a) = skips n s) (fun x => (n - x.2).toNat)
    (fun b => ∃ a : Nat, b = (a : Int) ∧ a ≤ s.length + 1 ∧ s.drop a = skips n s) (fun x hx => by
      obtain ⟨a, k, rfl, ha, hk, he⟩ := hx
      simp only
      unfold hansomref04_word_l8
      by_cases h1 : k < n
      · by_cases h2 : a < s.length
        · left
          have hl := takeU_len (s.drop a)
          rw [List.length_drop] at hl
          simp only [show (k : Int) < (n : Int) from by omega, show (a : Int) < (s.length : Int) from by omega, decide_true, if_true, word_in s n k a (by omega) hs, Option.bind_some]
          refine ⟨(((a + (takeU (s.drop a)).length + 1 : Nat) : Int), ((k + 1 : Nat) : Int)), ?_, ⟨a + (takeU (s.drop a)).length + 1, k + 1, rfl, by omega, by omega, ?_⟩, by simp only; omega⟩
          · rw [wrap64 (by omega) (by omega), wrap64 (by omega) (by omega)]; rfl
          · rw [← he, show n - k = (n - (k + 1)) + 1 by omega]
            simp only [skips]
            rw [skipU_drop, List.drop_drop]
            rfl
        · right
          simp only [show (k : Int) < (n : Int) from by omega, show ¬ (a : Int) < (s.length : Int) from by omega, decide_true, decide_false, if_true, Bool.false_eq_true, if_false]
          refine ⟨_, rfl, a, rfl, ha, ?_⟩
          have hd : s.drop a = [] := List.drop_of_length_le (by omega)
          rw [hd, skips_nil] at he
          rw [hd, ← he]
      · right
        have : k = n := by omega
        subst this
        simp only [show ¬ (k : Int) < (k : Int) from by omega, decide_false, Bool.false_eq_true, if_false]
        refine ⟨_, rfl, a, rfl, ha, ?_⟩
        rw [Nat.sub_self] at he
        exact he) (x := (0, 0)) ⟨0, 0, rfl, by omega, by omega, by simp⟩
  subst h2
  rw [h1, Option.bind_some, word_end s _ a h3 hs, Option.bind_some, wordU_skips, ← h4]
  by_cases hlt : a < s.length
  · have hl := takeU_len (s.drop a)
    rw [List.length_drop] at hl
    simp only [show ¬ (a : Int) ≥ (s.length : Int) from by omega, decide_false, Bool.false_eq_true, if_false]
    rw [cutL_eq (by omega) (by omega) (by omega), Option.bind_some, Int.toNat_natCast, Int.toNat_natCast, Nat.add_sub_cancel_left, ← takeU_take]
  · have : s.drop a = [] := List.drop_of_length_le (by omega)
    simp only [show (a : Int) ≥ (s.length : Int) from by omega, decide_true, if_true, this, takeU]
theorem cut_snoc (s : List UInt8) (a b : Nat) (h1 : a ≤ b) (h2 : b < s.length) : (s.drop a).take (b - a) ++ [s[b]] = (s.drop a).take (b + 1 - a) := by
  rw [show b + 1 - a = (b - a) + 1 by omega, List.take_succ_eq_append_getElem (by rw [List.length_drop]; omega)]
  simp [show a + (b - a) = b by omega]
theorem find_spec (s w : List UInt8) (hs : s.length ≤ 100000) : hansomref04_find s w = some ((fndU w s [] 1 : Nat) : Int) := by
  unfold hansomref04_find
  have h := loop_to (f := fun x : Int × Int × Int => hansomref04_find_l8 s w x.1 x.2.1 x.2.2) (fun x => if fndU w (s.drop x.2.2.toNat) ((s.drop x.2.1.toNat).take (x.2.2.toNat - x.2.1.toNat)) x.1.toNat = 0 then (.inr () : Int ⊕ Unit) else .inl ((fndU w (s.drop x.2.2.toNat) ((s.drop x.2.1.toNat).take (x.2.2.toNat - x.2.1.toNat)) x.1.toNat : Nat) : Int))
    (fun x => ∃ n a b : Nat, x = ((n : Int), (a : Int), (b : Int)) ∧ 1 ≤ n ∧ n ≤ b + 1 ∧ a ≤ b ∧ b ≤ s.length) (fun x => (s.length - x.2.2).toNat) (fun x hx => by
      obtain ⟨n, a, b, rfl, hn, hn2, ha, hb⟩ := hx
      simp only [Int.toNat_natCast]
      unfold hansomref04_find_l8
      have w1 : IntKind.wrap .i64 ((b : Int) + 1) = ((b + 1 : Nat) : Int) := by rw [wrap64 (by omega) (by omega)]; omega
      have w2 : IntKind.wrap .i64 ((n : Int) + 1) = ((n + 1 : Nat) : Int) := by rw [wrap64 (by omega) (by omega)]; omega
      by_cases hlt : b < s.length
      · have hd : s.drop b = s[b] :: s.drop (b + 1) := List.drop_eq_getElem_cons hlt
        simp only [show (b : Int) < (s.length : Int) from by omega, decide_true, if_true, idx_nat hlt, Option.bind_some, w1, w2]
        by_cases hc : s[b].toNat = 32
        · have hc' : (((s[b].toNat : Nat) : Int) != 32) = false := by simp [hc]
          simp only [hc', Bool.false_eq_true, if_false]
          rw [cutL_eq (by omega) (by omega) (by omega), Option.bind_some, Int.toNat_natCast, Int.toNat_natCast]
          by_cases hw : (s.drop a).take (b - a) = w
          · right
            simp only [hw, beq_self_eq_true, if_true, hd, fndU, hc]
            rw [if_neg (by omega)]
          · left
            have hw' : ((s.drop a).take (b - a) == w) = false := by simpa using hw
            simp only [hw', Bool.false_eq_true, if_false]
            refine ⟨_, rfl, ⟨n + 1, b + 1, b + 1, rfl, by omega, by omega, by omega, by omega⟩, by simp only; omega, ?_⟩
            simp only [Int.toNat_natCast, hd, fndU, hc, if_true, hw, if_false, Nat.sub_self, List.take_zero]
        · left
          have hc' : (((s[b].toNat : Nat) : Int) != 32) = true := by simp; omega
          simp only [hc', if_true]
          refine ⟨_, rfl, ⟨n, a, b + 1, rfl, hn, by omega, by omega, by omega⟩, by simp only; omega, ?_⟩
          simp only [Int.toNat_natCast, hd, fndU, hc, if_false]
          rw [cut_snoc s a b ha hlt]
      · right
        have : b = s.length := by omega
        subst this
        simp [fndU]) (x := (1, 0, 0)) ⟨1, 0, 0, rfl, by omega, by omega, by omega, by omega⟩
  rw [h]
  simp only [Option.bind_some]
  show (match (if fndU w s [] 1 = 0 then (.inr () : Int ⊕ Unit) else .inl ((fndU w s [] 1 : Nat) : Int)) with | .inl e => some e | .inr _ => some 0) = _
  split
  · rename_i h0; split at h0
    · cases h0
    · cases h0; rfl
  · rename_i h0; split at h0
    · rename_i hz; rw [hz]; rfl
    · cases h0
theorem part_spec (s : List UInt8) (mark n : Nat) (hs : s.length ≤ 100000) (hn : n ≤ 100000) : hansomref04_part s (mark : Int) (n : Int) = some (prtU mark s [] n) := by
  unfold hansomref04_part
  have h := loop_rule (f := fun x : Int × Int × Int => hansomref04_part_l8 s (mark : Int) x.1 x.2.1 x.2.2)
    (fun x => (∃ n' a b : Nat, x = ((n' : Int), (a : Int), (b : Int)) ∧ n' ≤ n ∧ a ≤ b ∧ b ≤ s.length ∧ prtU mark (s.drop b) ((s.drop a).take (b - a)) n' = prtU mark s [] n) ∨ ((s.length : Int) < x.2.2 ∧ prtU mark s [] n = [])) (fun x => (s.length + 1 - x.2.2).toNat)
    (fun r => (match r with | .inl e => e | .inr _ => ([] : List UInt8)) = prtU mark s [] n) (fun x hx => by
      rcases hx with ⟨n', a, b, rfl, hn', ha, hb, he⟩ | ⟨hx, he⟩
      · simp only
        unfold hansomref04_part_l8
        have w1 : IntKind.wrap .i64 ((b : Int) + 1) = ((b + 1 : Nat) : Int) := by rw [wrap64 (by omega) (by omega)]; omega
        simp only [show (b : Int) ≤ (s.length : Int) from by omega, decide_true, if_true, w1]
        by_cases hlt : b < s.length
        · have hd : s.drop b = s[b] :: s.drop (b + 1) := List.drop_eq_getElem_cons hlt
          rw [hd] at he
          simp only [show (b : Int) < (s.length : Int) from by omega, decide_true, if_true, idx_nat hlt, Option.bind_some]
          by_cases hc : s[b].toNat = mark
          · have hc' : (((s[b].toNat : Nat) : Int) != (mark : Int)) = false := by simp [hc]
            simp only [hc', Bool.false_eq_true, if_false]
            simp only [prtU, hc, if_true] at he
            by_cases hz : n' = 0
            · right
              subst hz
              simp only [if_true] at he
              simp only [Int.natCast_zero, beq_self_eq_true, if_true]
              rw [cutL_eq (by omega) (by omega) (by omega), Option.bind_some, Int.toNat_natCast, Int.toNat_natCast, he]
              exact ⟨_, rfl, rfl⟩
            · left
              rw [if_neg hz] at he
              have hz' : ((n' : Int) == 0) = false := by simp; omega
              have w3 : IntKind.wrap .i64 ((n' : Int) - 1) = ((n' - 1 : Nat) : Int) := by rw [wrap64 (by omega) (by omega)]; omega
              simp only [hz', Bool.false_eq_true, if_false, w3]
              refine ⟨_, rfl, .inl ⟨n' - 1, b + 1, b + 1, rfl, by omega, by omega, by omega, ?_⟩, by simp only; omega⟩
              rw [Nat.sub_self, List.take_zero]; exact he
          · left
            have hc' : (((s[b].toNat : Nat) : Int) != (mark : Int)) = true := by simp; omega
            simp only [hc', if_true]
            simp only [prtU, hc, if_false] at he
            refine ⟨_, rfl, .inl ⟨n', a, b + 1, rfl, by omega, by omega, by omega, ?_⟩, by simp only; omega⟩
            rw [← cut_snoc s a b ha hlt]; exact he
        · have hbl : b = s.length := by omega
          subst hbl
          rw [List.drop_length] at he
          simp only [prtU] at he
          simp only [show ¬ (s.length : Int) < (s.length : Int) from by omega, decide_false, Bool.false_eq_true, if_false]
          by_cases hz : n' = 0
          · right
            subst hz
            simp only [if_true] at he
            simp only [Int.natCast_zero, beq_self_eq_true, if_true]
            rw [cutL_eq (by omega) (by omega) (by omega), Option.bind_some, Int.toNat_natCast, Int.toNat_natCast, he]
            exact ⟨_, rfl, rfl⟩
          · left
            rw [if_neg hz] at he
            have hz' : ((n' : Int) == 0) = false := by simp; omega
            simp only [hz', Bool.false_eq_true, if_false]
            exact ⟨_, rfl, .inr ⟨by simp only; omega, he.symm⟩, by simp only; omega⟩
      · right
        unfold hansomref04_part_l8
        simp only [show ¬ x.2.2 ≤ (s.length : Int) from by omega, decide_false, Bool.false_eq_true, if_false]
        exact ⟨_, rfl, he.symm⟩) (x := ((n : Int), 0, 0)) (.inl ⟨n, 0, 0, rfl, by omega, by omega, by omega, by simp⟩)
  obtain ⟨r, h1, h2⟩ := h
  rw [h1, Option.bind_some, ← h2]
  cases r <;> rfl

def TBL : List UInt8 := [65, 68, 68, 58, 69, 98, 58, 71, 98, 32, 65, 68, 68, 58, 69, 118, 58, 71, 118, 32, 65, 68, 68, 58, 71, 98, 58, 69, 98, 32, 65, 68, 68, 58, 71, 118, 58, 69, 118, 32, 65, 68, 68, 58, 65, 76, 58, 73, 98, 32, 65, 68, 68, 58, 65, 88, 58, 73, 118, 32, 80, 85, 83, 72, 58, 90, 115, 32, 80, 79, 80, 58, 90, 115, 32, 79, 82, 58, 69, 98, 58, 71, 98, 32, 79, 82, 58, 69, 118, 58, 71, 118, 32, 79, 82, 58, 71, 98, 58, 69, 98, 32, 79, 82, 58, 71, 118, 58, 69, 118, 32, 79, 82, 58, 65, 76, 58, 73, 98, 32, 79, 82, 58, 65, 88, 58, 73, 118, 32, 80, 85, 83, 72, 58, 90, 115, 32, 45, 32, 65, 68, 67, 58, 69, 98, 58, 71, 98, 32, 65, 68, 67, 58, 69, 118, 58, 71, 118, 32, 65, 68, 67, 58, 71, 98, 58, 69, 98, 32, 65, 68, 67, 58, 71, 118, 58, 69, 118, 32, 65, 68, 67, 58, 65, 76, 58, 73, 98, 32, 65, 68, 67, 58, 65, 88, 58, 73, 118, 32, 80, 85, 83, 72, 58, 90, 115, 32, 80, 79, 80, 58, 90, 115, 32, 83, 66, 66, 58, 69, 98, 58, 71, 98, 32, 83, 66, 66, 58, 69, 118, 58, 71, 118, 32, 83, 66, 66, 58, 71, 98, 58, 69, 98, 32, 83, 66, 66, 58, 71, 118, 58, 69, 118, 32, 83, 66, 66, 58, 65, 76, 58, 73, 98, 32, 83, 66, 66, 58, 65, 88, 58, 73, 118, 32, 80, 85, 83, 72, 58, 90, 115, 32, 80, 79, 80, 58, 90, 115, 32, 65, 78, 68, 58, 69, 98, 58, 71, 98, 32, 65, 78, 68, 58, 69, 118, 58, 71, 118, 32, 65, 78, 68, 58, 71, 98, 58, 69, 98, 32, 65, 78, 68, 58, 71, 118, 58, 69, 118, 32, 65, 78, 68, 58, 65, 76, 58, 73, 98, 32, 65, 78, 68, 58, 65, 88, 58, 73, 118, 32, 45, 32, 68, 65, 65, 32, 83, 85, 66, 58, 69, 98, 58, 71, 98, 32, 83, 85, 66, 58, 69, 118, 58, 71, 118, 32, 83, 85, 66, 58, 71, 98, 58, 69, 98, 32, 83, 85, 66, 58, 71, 118, 58, 69, 118, 32, 83, 85, 66, 58, 65, 76, 58, 73, 98, 32, 83, 85, 66, 58, 65, 88, 58, 73, 118, 32, 45, 32, 68, 65, 83, 32, 88, 79, 82, 58, 69, 98, 58, 71, 98, 32, 88, 79, 82, 58, 69, 118, 58, 71, 118, 32, 88, 79, 82, 58, 71, 98, 58, 69, 98, 32, 88, 79, 82, 58, 71, 118, 58, 69, 118, 32, 88, 79, 82, 58, 65, 76, 58, 73, 98, 32, 88, 79, 82, 58, 65, 88, 58, 73, 118, 32, 45, 32, 65, 65, 65, 32, 67, 77, 80, 58, 69, 98, 58, 71, 98, 32, 67, 77, 80, 58, 69, 118, 58, 71, 118, 32, 67, 77, 80, 58, 71, 98, 58, 69, 98, 32, 67, 77, 80, 58, 71, 118, 58, 69, 118, 32, 67, 77, 80, 58, 65, 76, 58, 73, 98, 32, 67, 77, 80, 58, 65, 88, 58, 73, 118, 32, 45, 32, 65, 65, 83, 32, 73, 78, 67, 58, 90, 118, 32, 73, 78, 67, 58, 90, 118, 32, 73, 78, 67, 58, 90, 118, 32, 73, 78, 67, 58, 90, 118, 32, 73, 78, 67, 58, 90, 118, 32, 73, 78, 67, 58, 90, 118, 32, 73, 78, 67, 58, 90, 118, 32, 73, 78, 67, 58, 90, 118, 32, 68, 69, 67, 58, 90, 118, 32, 68, 69, 67, 58, 90, 118, 32, 68, 69, 67, 58, 90, 118, 32, 68, 69, 67, 58, 90, 118, 32, 68, 69, 67, 58, 90, 118, 32, 68, 69, 67, 58, 90, 118, 32, 68, 69, 67, 58, 90, 118, 32, 68, 69, 67, 58, 90, 118, 32, 80, 85, 83, 72, 58, 90, 118, 32, 80, 85, 83, 72, 58, 90, 118, 32, 80, 85, 83, 72, 58, 90, 118, 32, 80, 85, 83, 72, 58, 90, 118, 32, 80, 85, 83, 72, 58, 90, 118, 32, 80, 85, 83, 72, 58, 90, 118, 32, 80, 85, 83, 72, 58, 90, 118, 32, 80, 85, 83, 72, 58, 90, 118, 32, 80, 79, 80, 58, 90, 118, 32, 80, 79, 80, 58, 90, 118, 32, 80, 79, 80, 58, 90, 118, 32, 80, 79, 80, 58, 90, 118, 32, 80, 79, 80, 58, 90, 118, 32, 80, 79, 80, 58, 90, 118, 32, 80, 79, 80, 58, 90, 118, 32, 80, 79, 80, 58, 90, 118, 32, 45, 32, 45, 32, 45, 32, 45, 32, 45, 32, 45, 32, 45, 32, 45, 32, 45, 32, 45, 32, 45, 32, 45, 32, 45, 32, 45, 32, 45, 32, 45, 32, 74, 79, 58, 74, 98, 32, 74, 78, 79, 58, 74, 98, 32, 74, 66, 58, 74, 98, 32, 74, 78, 66, 58, 74, 98, 32, 74, 90, 58, 74, 98, 32, 74, 78, 90, 58, 74, 98, 32, 74, 66, 69, 58, 74, 98, 32, 74, 65, 58, 74, 98, 32, 74, 83, 58, 74, 98, 32, 74, 78, 83, 58, 74, 98, 32, 74, 80, 58, 74, 98, 32, 74, 78, 80, 58, 74, 98, 32, 74, 76, 58, 74, 98, 32, 74, 71, 69, 58, 74, 98, 32, 74, 76, 69, 58, 74, 98, 32, 74, 71, 58, 74, 98, 32, 47, 65, 68, 68, 58, 69, 98, 58, 73, 98, 47, 79, 82, 58, 69, 98, 58, 73, 98, 47, 65, 68, 67, 58, 69, 98, 58, 73, 98, 47, 83, 66, 66, 58, 69, 98, 58, 73, 98, 47, 65, 78, 68, 58, 69, 98, 58, 73, 98, 47, 83, 85, 66, 58, 69, 98, 58, 73, 98, 47, 88, 79, 82, 58, 69, 98, 58, 73, 98, 47, 67, 77, 80, 58, 69, 98, 58, 73, 98, 32, 47, 65, 68, 68, 58, 69, 118, 58, 73, 118, 47, 79, 82, 58, 69, 118, 58, 73, 118, 47, 65, 68, 67, 58, 69, 118, 58, 73, 118, 47, 83, 66, 66, 58, 69, 118, 58, 73, 118, 47, 65, 78, 68, 58, 69, 118, 58, 73, 118, 47, 83, 85, 66, 58, 69, 118, 58, 73, 118, 47, 88, 79, 82, 58, 69, 118, 58, 73, 118, 47, 67, 77, 80, 58, 69, 118, 58, 73, 118, 32, 45, 32, 47, 65, 68, 68, 58, 69, 118, 58, 73, 115, 47, 45, 47, 65, 68, 67, 58, 69, 118, 58, 73, 115, 47, 83, 66, 66, 58, 69, 118, 58, 73, 115, 47, 45, 47, 83, 85, 66, 58, 69, 118, 58, 73, 115, 47, 45, 47, 67, 77, 80, 58, 69, 118, 58, 73, 115, 32, 84, 69, 83, 84, 58, 69, 98, 58, 71, 98, 32, 84, 69, 83, 84, 58, 69, 118, 58, 71, 118, 32, 88, 67, 72, 71, 58, 69, 98, 58, 71, 98, 32, 88, 67, 72, 71, 58, 69, 118, 58, 71, 118, 32, 77, 79, 86, 58, 69, 98, 58, 71, 98, 32, 77, 79, 86, 58, 69, 118, 58, 71, 118, 32, 77, 79, 86, 58, 71, 98, 58, 69, 98, 32, 77, 79, 86, 58, 71, 118, 58, 69, 118, 32, 47, 77, 79, 86, 58, 69, 118, 58, 83, 119, 47, 77, 79, 86, 58, 69, 118, 58, 83, 119, 47, 77, 79, 86, 58, 69, 118, 58, 83, 119, 47, 77, 79, 86, 58, 69, 118, 58, 83, 119, 47, 45, 47, 45, 47, 45, 47, 45, 32, 76, 69, 65, 58, 71, 118, 58, 77, 32, 47, 77, 79, 86, 58, 83, 119, 58, 69, 118, 47, 45, 47, 77, 79, 86, 58, 83, 119, 58, 69, 118, 47, 77, 79, 86, 58, 83, 119, 58, 69, 118, 47, 45, 47, 45, 47, 45, 47, 45, 32, 47, 80, 79, 80, 58, 69, 118, 47, 45, 47, 45, 47, 45, 47, 45, 47, 45, 47, 45, 47, 45, 32, 88, 67, 72, 71, 58, 65, 88, 58, 90, 118, 32, 88, 67, 72, 71, 58, 65, 88, 58, 90, 118, 32, 88, 67, 72, 71, 58, 65, 88, 58, 90, 118, 32, 88, 67, 72, 71, 58, 65, 88, 58, 90, 118, 32, 88, 67, 72, 71, 58, 65, 88, 58, 90, 118, 32, 88, 67, 72, 71, 58, 65, 88, 58, 90, 118, 32, 88, 67, 72, 71, 58, 65, 88, 58, 90, 118, 32, 88, 67, 72, 71, 58, 65, 88, 58, 90, 118, 32, 67, 66, 87, 32, 67, 87, 68, 32, 67, 65, 76, 76, 70, 58, 65, 112, 32, 87, 65, 73, 84, 32, 80, 85, 83, 72, 70, 32, 80, 79, 80, 70, 32, 83, 65, 72, 70, 32, 76, 65, 72, 70, 32, 77, 79, 86, 58, 65, 76, 58, 79, 98, 32, 77, 79, 86, 58, 65, 88, 58, 79, 118, 32, 77, 79, 86, 58, 79, 98, 58, 65, 76, 32, 77, 79, 86, 58, 79, 118, 58, 65, 88, 32, 77, 79, 86, 83, 66, 32, 77, 79, 86, 83, 87, 32, 67, 77, 80, 83, 66, 32, 67, 77, 80, 83, 87, 32, 84, 69, 83, 84, 58, 65, 76, 58, 73, 98, 32, 84, 69, 83, 84, 58, 65, 88, 58, 73, 118, 32, 83, 84, 79, 83, 66, 32, 83, 84, 79, 83, 87, 32, 76, 79, 68, 83, 66, 32, 76, 79, 68, 83, 87, 32, 83, 67, 65, 83, 66, 32, 83, 67, 65, 83, 87, 32, 77, 79, 86, 58, 90, 98, 58, 73, 98, 32, 77, 79, 86, 58, 90, 98, 58, 73, 98, 32, 77, 79, 86, 58, 90, 98, 58, 73, 98, 32, 77, 79, 86, 58, 90, 98, 58, 73, 98, 32, 77, 79, 86, 58, 90, 98, 58, 73, 98, 32, 77, 79, 86, 58, 90, 98, 58, 73, 98, 32, 77, 79, 86, 58, 90, 98, 58, 73, 98, 32, 77, 79, 86, 58, 90, 98, 58, 73, 98, 32, 77, 79, 86, 58, 90, 118, 58, 73, 118, 32, 77, 79, 86, 58, 90, 118, 58, 73, 118, 32, 77, 79, 86, 58, 90, 118, 58, 73, 118, 32, 77, 79, 86, 58, 90, 118, 58, 73, 118, 32, 77, 79, 86, 58, 90, 118, 58, 73, 118, 32, 77, 79, 86, 58, 90, 118, 58, 73, 118, 32, 77, 79, 86, 58, 90, 118, 58, 73, 118, 32, 77, 79, 86, 58, 90, 118, 58, 73, 118, 32, 45, 32, 45, 32, 82, 69, 84, 58, 73, 118, 32, 82, 69, 84, 32, 76, 69, 83, 58, 71, 118, 58, 77, 112, 32, 76, 68, 83, 58, 71, 118, 58, 77, 112, 32, 47, 77, 79, 86, 58, 69, 98, 58, 73, 98, 47, 45, 47, 45, 47, 45, 47, 45, 47, 45, 47, 45, 47, 45, 32, 47, 77, 79, 86, 58, 69, 118, 58, 73, 118, 47, 45, 47, 45, 47, 45, 47, 45, 47, 45, 47, 45, 47, 45, 32, 45, 32, 45, 32, 82, 69, 84, 70, 58, 73, 118, 32, 82, 69, 84, 70, 32, 73, 78, 84, 58, 84, 104, 114, 101, 101, 32, 73, 78, 84, 58, 73, 98, 32, 73, 78, 84, 79, 32, 73, 82, 69, 84, 32, 47, 82, 79, 76, 58, 69, 98, 58, 79, 110, 101, 47, 82, 79, 82, 58, 69, 98, 58, 79, 110, 101, 47, 82, 67, 76, 58, 69, 98, 58, 79, 110, 101, 47, 82, 67, 82, 58, 69, 98, 58, 79, 110, 101, 47, 83, 72, 76, 58, 69, 98, 58, 79, 110, 101, 47, 83, 72, 82, 58, 69, 98, 58, 79, 110, 101, 47, 45, 47, 83, 65, 82, 58, 69, 98, 58, 79, 110, 101, 32, 47, 82, 79, 76, 58, 69, 118, 58, 79, 110, 101, 47, 82, 79, 82, 58, 69, 118, 58, 79, 110, 101, 47, 82, 67, 76, 58, 69, 118, 58, 79, 110, 101, 47, 82, 67, 82, 58, 69, 118, 58, 79, 110, 101, 47, 83, 72, 76, 58, 69, 118, 58, 79, 110, 101, 47, 83, 72, 82, 58, 69, 118, 58, 79, 110, 101, 47, 45, 47, 83, 65, 82, 58, 69, 118, 58, 79, 110, 101, 32, 47, 82, 79, 76, 58, 69, 98, 58, 67, 76, 47, 82, 79, 82, 58, 69, 98, 58, 67, 76, 47, 82, 67, 76, 58, 69, 98, 58, 67, 76, 47, 82, 67, 82, 58, 69, 98, 58, 67, 76, 47, 83, 72, 76, 58, 69, 98, 58, 67, 76, 47, 83, 72, 82, 58, 69, 98, 58, 67, 76, 47, 45, 47, 83, 65, 82, 58, 69, 98, 58, 67, 76, 32, 47, 82, 79, 76, 58, 69, 118, 58, 67, 76, 47, 82, 79, 82, 58, 69, 118, 58, 67, 76, 47, 82, 67, 76, 58, 69, 118, 58, 67, 76, 47, 82, 67, 82, 58, 69, 118, 58, 67, 76, 47, 83, 72, 76, 58, 69, 118, 58, 67, 76, 47, 83, 72, 82, 58, 69, 118, 58, 67, 76, 47, 45, 47, 83, 65, 82, 58, 69, 118, 58, 67, 76, 32, 65, 65, 77, 58, 73, 98, 32, 65, 65, 68, 58, 73, 98, 32, 45, 32, 88, 76, 65, 84, 32, 69, 83, 67, 58, 69, 118, 32, 69, 83, 67, 58, 69, 118, 32, 69, 83, 67, 58, 69, 118, 32, 69, 83, 67, 58, 69, 118, 32, 69, 83, 67, 58, 69, 118, 32, 69, 83, 67, 58, 69, 118, 32, 69, 83, 67, 58, 69, 118, 32, 69, 83, 67, 58, 69, 118, 32, 76, 79, 79, 80, 78, 90, 58, 74, 98, 32, 76, 79, 79, 80, 90, 58, 74, 98, 32, 76, 79, 79, 80, 58, 74, 98, 32, 74, 67, 88, 90, 58, 74, 98, 32, 73, 78, 58, 65, 76, 58, 73, 98, 32, 73, 78, 58, 65, 88, 58, 73, 98, 32, 79, 85, 84, 58, 73, 98, 58, 65, 76, 32, 79, 85, 84, 58, 73, 98, 58, 65, 88, 32, 67, 65, 76, 76, 58, 74, 118, 32, 74, 77, 80, 58, 74, 118, 32, 74, 77, 80, 70, 58, 65, 112, 32, 74, 77, 80, 58, 74, 98, 32, 73, 78, 58, 65, 76, 58, 68, 88, 32, 73, 78, 58, 65, 88, 58, 68, 88, 32, 79, 85, 84, 58, 68, 88, 58, 65, 76, 32, 79, 85, 84, 58, 68, 88, 58, 65, 88, 32, 45, 32, 45, 32, 45, 32, 45, 32, 72, 76, 84, 32, 67, 77, 67, 32, 47, 84, 69, 83, 84, 58, 69, 98, 58, 73, 98, 47, 45, 47, 78, 79, 84, 58, 69, 98, 47, 78, 69, 71, 58, 69, 98, 47, 77, 85, 76, 58, 69, 98, 47, 73, 77, 85, 76, 58, 69, 98, 47, 68, 73, 86, 58, 69, 98, 47, 73, 68, 73, 86, 58, 69, 98, 32, 47, 84, 69, 83, 84, 58, 69, 118, 58, 73, 118, 47, 45, 47, 78, 79, 84, 58, 69, 118, 47, 78, 69, 71, 58, 69, 118, 47, 77, 85, 76, 58, 69, 118, 47, 73, 77, 85, 76, 58, 69, 118, 47, 68, 73, 86, 58, 69, 118, 47, 73, 68, 73, 86, 58, 69, 118, 32, 67, 76, 67, 32, 83, 84, 67, 32, 67, 76, 73, 32, 83, 84, 73, 32, 67, 76, 68, 32, 83, 84, 68, 32, 47, 73, 78, 67, 58, 69, 98, 47, 68, 69, 67, 58, 69, 98, 47, 45, 47, 45, 47, 45, 47, 45, 47, 45, 47, 45, 32, 47, 73, 78, 67, 58, 69, 118, 47, 68, 69, 67, 58, 69, 118, 47, 67, 65, 76, 76, 58, 69, 118, 47, 67, 65, 76, 76, 70, 58, 77, 112, 47, 74, 77, 80, 58, 69, 118, 47, 74, 77, 80, 70, 58, 77, 112, 47, 80, 85, 83, 72, 58, 69, 118, 47, 45, 32]
def NAMES : List UInt8 := [65, 68, 68, 32, 79, 82, 32, 65, 68, 67, 32, 83, 66, 66, 32, 65, 78, 68, 32, 83, 85, 66, 32, 88, 79, 82, 32, 67, 77, 80, 32, 80, 85, 83, 72, 32, 80, 79, 80, 32, 68, 65, 65, 32, 68, 65, 83, 32, 65, 65, 65, 32, 65, 65, 83, 32, 73, 78, 67, 32, 68, 69, 67, 32, 74, 79, 32, 74, 78, 79, 32, 74, 66, 32, 74, 78, 66, 32, 74, 90, 32, 74, 78, 90, 32, 74, 66, 69, 32, 74, 65, 32, 74, 83, 32, 74, 78, 83, 32, 74, 80, 32, 74, 78, 80, 32, 74, 76, 32, 74, 71, 69, 32, 74, 76, 69, 32, 74, 71, 32, 84, 69, 83, 84, 32, 88, 67, 72, 71, 32, 77, 79, 86, 32, 76, 69, 65, 32, 67, 66, 87, 32, 67, 87, 68, 32, 67, 65, 76, 76, 32, 67, 65, 76, 76, 70, 32, 87, 65, 73, 84, 32, 80, 85, 83, 72, 70, 32, 80, 79, 80, 70, 32, 83, 65, 72, 70, 32, 76, 65, 72, 70, 32, 77, 79, 86, 83, 66, 32, 77, 79, 86, 83, 87, 32, 67, 77, 80, 83, 66, 32, 67, 77, 80, 83, 87, 32, 83, 84, 79, 83, 66, 32, 83, 84, 79, 83, 87, 32, 76, 79, 68, 83, 66, 32, 76, 79, 68, 83, 87, 32, 83, 67, 65, 83, 66, 32, 83, 67, 65, 83, 87, 32, 82, 69, 84, 32, 82, 69, 84, 70, 32, 76, 69, 83, 32, 76, 68, 83, 32, 73, 78, 84, 32, 73, 78, 84, 79, 32, 73, 82, 69, 84, 32, 82, 79, 76, 32, 82, 79, 82, 32, 82, 67, 76, 32, 82, 67, 82, 32, 83, 72, 76, 32, 83, 72, 82, 32, 83, 65, 82, 32, 65, 65, 77, 32, 65, 65, 68, 32, 88, 76, 65, 84, 32, 69, 83, 67, 32, 76, 79, 79, 80, 78, 90, 32, 76, 79, 79, 80, 90, 32, 76, 79, 79, 80, 32, 74, 67, 88, 90, 32, 73, 78, 32, 79, 85, 84, 32, 74, 77, 80, 32, 74, 77, 80, 70, 32, 72, 76, 84, 32, 67, 77, 67, 32, 78, 79, 84, 32, 78, 69, 71, 32, 77, 85, 76, 32, 73, 77, 85, 76, 32, 68, 73, 86, 32, 73, 68, 73, 86, 32, 67, 76, 67, 32, 83, 84, 67, 32, 67, 76, 73, 32, 83, 84, 73, 32, 67, 76, 68, 32, 83, 84, 68, 32]
def KINDS : List UInt8 := [69, 98, 32, 69, 118, 32, 71, 98, 32, 71, 118, 32, 83, 119, 32, 73, 98, 32, 73, 118, 32, 73, 115, 32, 74, 98, 32, 74, 118, 32, 65, 112, 32, 79, 98, 32, 79, 118, 32, 65, 76, 32, 67, 76, 32, 65, 88, 32, 68, 88, 32, 79, 110, 101, 32, 77, 112, 32, 77, 32, 90, 98, 32, 90, 118, 32, 90, 115, 32, 84, 104, 114, 101, 101, 32]
def LIT : List (List (Nat × Nat × Nat)) := [[(1, 1, 3)],
  [(1, 2, 4)],
  [(1, 3, 1)],
  [(1, 4, 2)],
  [(1, 14, 6)],
  [(1, 16, 7)],
  [(9, 23, 0)],
  [(10, 23, 0)],
  [(2, 1, 3)],
  [(2, 2, 4)],
  [(2, 3, 1)],
  [(2, 4, 2)],
  [(2, 14, 6)],
  [(2, 16, 7)],
  [(9, 23, 0)],
  [(0, 0, 0)],
  [(3, 1, 3)],
  [(3, 2, 4)],
  [(3, 3, 1)],
  [(3, 4, 2)],
  [(3, 14, 6)],
  [(3, 16, 7)],
  [(9, 23, 0)],
  [(10, 23, 0)],
  [(4, 1, 3)],
  [(4, 2, 4)],
  [(4, 3, 1)],
  [(4, 4, 2)],
  [(4, 14, 6)],
  [(4, 16, 7)],
  [(9, 23, 0)],
  [(10, 23, 0)],
  [(5, 1, 3)],
  [(5, 2, 4)],
  [(5, 3, 1)],
  [(5, 4, 2)],
  [(5, 14, 6)],
  [(5, 16, 7)],
  [(0, 0, 0)],
  [(11, 0, 0)],
  [(6, 1, 3)],
  [(6, 2, 4)],
  [(6, 3, 1)],
  [(6, 4, 2)],
  [(6, 14, 6)],
  [(6, 16, 7)],
  [(0, 0, 0)],
  [(12, 0, 0)],
  [(7, 1, 3)],
  [(7, 2, 4)],
  [(7, 3, 1)],
  [(7, 4, 2)],
  [(7, 14, 6)],
  [(7, 16, 7)],
  [(0, 0, 0)],
  [(13, 0, 0)],
  [(8, 1, 3)],
  [(8, 2, 4)],
  [(8, 3, 1)],
  [(8, 4, 2)],
  [(8, 14, 6)],
  [(8, 16, 7)],
  [(0, 0, 0)],
  [(14, 0, 0)],
  [(15, 22, 0)],
  [(15, 22, 0)],
  [(15, 22, 0)],
  [(15, 22, 0)],
  [(15, 22, 0)],
  [(15, 22, 0)],
  [(15, 22, 0)],
  [(15, 22, 0)],
  [(16, 22, 0)],
  [(16, 22, 0)],
  [(16, 22, 0)],
  [(16, 22, 0)],
  [(16, 22, 0)],
  [(16, 22, 0)],
  [(16, 22, 0)],
  [(16, 22, 0)],
  [(9, 22, 0)],
  [(9, 22, 0)],
  [(9, 22, 0)],
  [(9, 22, 0)],
  [(9, 22, 0)],
  [(9, 22, 0)],
  [(9, 22, 0)],
  [(9, 22, 0)],
  [(10, 22, 0)],
  [(10, 22, 0)],
  [(10, 22, 0)],
  [(10, 22, 0)],
  [(10, 22, 0)],
  [(10, 22, 0)],
  [(10, 22, 0)],
  [(10, 22, 0)],
  [(0, 0, 0)],
  [(0, 0, 0)],
  [(0, 0, 0)],
  [(0, 0, 0)],
  [(0, 0, 0)],
  [(0, 0, 0)],
  [(0, 0, 0)],
  [(0, 0, 0)],
  [(0, 0, 0)],
  [(0, 0, 0)],
  [(0, 0, 0)],
  [(0, 0, 0)],
  [(0, 0, 0)],
  [(0, 0, 0)],
  [(0, 0, 0)],
  [(0, 0, 0)],
  [(17, 9, 0)],
  [(18, 9, 0)],
  [(19, 9, 0)],
  [(20, 9, 0)],
  [(21, 9, 0)],
  [(22, 9, 0)],
  [(23, 9, 0)],
  [(24, 9, 0)],
  [(25, 9, 0)],
  [(26, 9, 0)],
  [(27, 9, 0)],
  [(28, 9, 0)],
  [(29, 9, 0)],
  [(30, 9, 0)],
  [(31, 9, 0)],
  [(32, 9, 0)],
  [(1, 1, 6), (2, 1, 6), (3, 1, 6), (4, 1, 6), (5, 1, 6), (6, 1, 6), (7, 1, 6), (8, 1, 6)],
  [(1, 2, 7), (2, 2, 7), (3, 2, 7), (4, 2, 7), (5, 2, 7), (6, 2, 7), (7, 2, 7), (8, 2, 7)],
  [(0, 0, 0)],
  [(1, 2, 8), (0, 0, 0), (3, 2, 8), (4, 2, 8), (0, 0, 0), (6, 2, 8), (0, 0, 0), (8, 2, 8)],
  [(33, 1, 3)],
  [(33, 2, 4)],
  [(34, 1, 3)],
  [(34, 2, 4)],
  [(35, 1, 3)],
  [(35, 2, 4)],
  [(35, 3, 1)],
  [(35, 4, 2)],
  [(35, 2, 5), (35, 2, 5), (35, 2, 5), (35, 2, 5), (0, 0, 0), (0, 0, 0), (0, 0, 0), (0, 0, 0)],
  [(36, 4, 20)],
  [(35, 5, 2), (0, 0, 0), (35, 5, 2), (35, 5, 2), (0, 0, 0), (0, 0, 0), (0, 0, 0), (0, 0, 0)],
  [(10, 2, 0), (0, 0, 0), (0, 0, 0), (0, 0, 0), (0, 0, 0), (0, 0, 0), (0, 0, 0), (0, 0, 0)],
  [(34, 16, 22)],
  [(34, 16, 22)],
  [(34, 16, 22)],
  [(34, 16, 22)],
  [(34, 16, 22)],
  [(34, 16, 22)],
  [(34, 16, 22)],
  [(34, 16, 22)],
  [(37, 0, 0)],
  [(38, 0, 0)],
  [(40, 11, 0)],
  [(41, 0, 0)],
  [(42, 0, 0)],
  [(43, 0, 0)],
  [(44, 0, 0)],
  [(45, 0, 0)],
  [(35, 14, 12)],
  [(35, 16, 13)],
  [(35, 12, 14)],
  [(35, 13, 16)],
  [(46, 0, 0)],
  [(47, 0, 0)],
  [(48, 0, 0)],
  [(49, 0, 0)],
  [(33, 14, 6)],
  [(33, 16, 7)],
  [(50, 0, 0)],
  [(51, 0, 0)],
  [(52, 0, 0)],
  [(53, 0, 0)],
  [(54, 0, 0)],
  [(55, 0, 0)],
  [(35, 21, 6)],
  [(35, 21, 6)],
  [(35, 21, 6)],
  [(35, 21, 6)],
  [(35, 21, 6)],
  [(35, 21, 6)],
  [(35, 21, 6)],
  [(35, 21, 6)],
  [(35, 22, 7)],
  [(35, 22, 7)],
  [(35, 22, 7)],
  [(35, 22, 7)],
  [(35, 22, 7)],
  [(35, 22, 7)],
  [(35, 22, 7)],
  [(35, 22, 7)],
  [(0, 0, 0)],
  [(0, 0, 0)],
  [(56, 7, 0)],
  [(56, 0, 0)],
  [(58, 4, 19)],
  [(59, 4, 19)],
  [(35, 1, 6), (0, 0, 0), (0, 0, 0), (0, 0, 0), (0, 0, 0), (0, 0, 0), (0, 0, 0), (0, 0, 0)],
  [(35, 2, 7), (0, 0, 0), (0, 0, 0), (0, 0, 0), (0, 0, 0), (0, 0, 0), (0, 0, 0), (0, 0, 0)],
  [(0, 0, 0)],
  [(0, 0, 0)],
  [(57, 7, 0)],
  [(57, 0, 0)],
  [(60, 24, 0)],
  [(60, 6, 0)],
  [(61, 0, 0)],
  [(62, 0, 0)],
  [(63, 1, 18), (64, 1, 18), (65, 1, 18), (66, 1, 18), (67, 1, 18), (68, 1, 18), (0, 0, 0), (69, 1, 18)],
  [(63, 2, 18), (64, 2, 18), (65, 2, 18), (66, 2, 18), (67, 2, 18), (68, 2, 18), (0, 0, 0), (69, 2, 18)],
  [(63, 1, 15), (64, 1, 15), (65, 1, 15), (66, 1, 15), (67, 1, 15), (68, 1, 15), (0, 0, 0), (69, 1, 15)],
  [(63, 2, 15), (64, 2, 15), (65, 2, 15), (66, 2, 15), (67, 2, 15), (68, 2, 15), (0, 0, 0), (69, 2, 15)],
  [(70, 6, 0)],
  [(71, 6, 0)],
  [(0, 0, 0)],
  [(72, 0, 0)],
  [(73, 2, 0)],
  [(73, 2, 0)],
  [(73, 2, 0)],
  [(73, 2, 0)],
  [(73, 2, 0)],
  [(73, 2, 0)],
  [(73, 2, 0)],
  [(73, 2, 0)],
  [(74, 9, 0)],
  [(75, 9, 0)],
  [(76, 9, 0)],
  [(77, 9, 0)],
  [(78, 14, 6)],
  [(78, 16, 6)],
  [(79, 6, 14)],
  [(79, 6, 16)],
  [(39, 10, 0)],
  [(80, 10, 0)],
  [(81, 11, 0)],
  [(80, 9, 0)],
  [(78, 14, 17)],
  [(78, 16, 17)],
  [(79, 17, 14)],
  [(79, 17, 16)],
  [(0, 0, 0)],
  [(0, 0, 0)],
  [(0, 0, 0)],
  [(0, 0, 0)],
  [(82, 0, 0)],
  [(83, 0, 0)],
  [(33, 1, 6), (0, 0, 0), (84, 1, 0), (85, 1, 0), (86, 1, 0), (87, 1, 0), (88, 1, 0), (89, 1, 0)],
  [(33, 2, 7), (0, 0, 0), (84, 2, 0), (85, 2, 0), (86, 2, 0), (87, 2, 0), (88, 2, 0), (89, 2, 0)],
  [(90, 0, 0)],
  [(91, 0, 0)],
  [(92, 0, 0)],
  [(93, 0, 0)],
  [(94, 0, 0)],
  [(95, 0, 0)],
  [(15, 1, 0), (16, 1, 0), (0, 0, 0), (0, 0, 0), (0, 0, 0), (0, 0, 0), (0, 0, 0), (0, 0, 0)],
  [(15, 2, 0), (16, 2, 0), (39, 2, 0), (40, 19, 0), (80, 2, 0), (81, 19, 0), (9, 2, 0), (0, 0, 0)]]

/-! ### the table, reckoned with numbers -/
def skipN : List Nat → List Nat
  | [] => []
  | c :: r => if c = 32 then r else skipN r
def takeN : List Nat → List Nat
  | [] => []
  | c :: r => if c = 32 then [] else c :: takeN r
def fndN (w : List Nat) : List Nat → List Nat → Nat → Nat
  | [], _, _ => 0
  | c :: r, cur, n => if c = 32 then (if cur = w then n else fndN w r [] (n + 1)) else fndN w r (cur ++ [c]) n
def prtN (mark : Nat) : List Nat → List Nat → Nat → List Nat
  | [], cur, n => if n = 0 then cur else []
  | c :: r, cur, n => if c = mark then (if n = 0 then cur else prtN mark r [] (n - 1)) else prtN mark r (cur ++ [c]) n
def nat (s : List UInt8) : List Nat := s.map UInt8.toNat
theorem nat_inj {a b : List UInt8} : nat a = nat b ↔ a = b := by
  constructor
  · intro h
    exact List.map_inj_right (fun x y h => UInt8.toNat_inj.1 h) |>.1 h
  · intro h; rw [h]
theorem nat_skip (s : List UInt8) : nat (skipU s) = skipN (nat s) := by
  induction s with
  | nil => rfl
  | cons c r ih =>
    simp only [skipU, nat, List.map_cons, skipN]
    split
    · rfl
    · exact ih
theorem nat_take (s : List UInt8) : nat (takeU s) = takeN (nat s) := by
  induction s with
  | nil => rfl
  | cons c r ih =>
    simp only [takeU, nat, List.map_cons, takeN]
    split
    · rfl
    · simp only [List.map_cons, List.cons.injEq, true_and]; exact ih
theorem nat_fnd (w : List UInt8) : ∀ (s cur : List UInt8) (n : Nat), fndU w s cur n = fndN (nat w) (nat s) (nat cur) n
  | [], cur, n => rfl
  | c :: r, cur, n => by
    have e1 := nat_fnd w r [] (n + 1)
    have e2 := nat_fnd w r (cur ++ [c]) n
    simp only [nat, List.map_append, List.map_cons, List.map_nil] at e1 e2
    simp only [fndU, nat, List.map_cons, fndN, e1, e2]
    have e3 : (List.map UInt8.toNat cur = List.map UInt8.toNat w) = (cur = w) := propext nat_inj
    simp only [e3]
theorem nat_prt (m : Nat) : ∀ (s cur : List UInt8) (n : Nat), nat (prtU m s cur n) = prtN m (nat s) (nat cur) n
  | [], cur, n => by simp only [prtU, nat, List.map_nil, prtN]; split <;> rfl
  | c :: r, cur, n => by
    have e1 := nat_prt m r [] (n - 1)
    have e2 := nat_prt m r (cur ++ [c]) n
    simp only [nat, List.map_append, List.map_cons, List.map_nil] at e1 e2
    simp only [prtU, nat, List.map_cons, prtN]
    split
    · split
      · rfl
      · exact e1
    · exact e2
theorem prtU_len (m : Nat) : ∀ (s cur : List UInt8) (n : Nat), (prtU m s cur n).length ≤ s.length + cur.length
  | [], cur, n => by simp only [prtU]; split <;> simp
  | c :: r, cur, n => by
    have e1 := prtU_len m r [] (n - 1)
    have e2 := prtU_len m r (cur ++ [c]) n
    simp only [List.length_append, List.length_cons, List.length_nil] at e1 e2
    simp only [prtU, List.length_cons]
    split
    · split <;> omega
    · omega
/-- the words of a text -/
def wordsN : Nat → List Nat → List (List Nat)
  | 0, _ => []
  | n + 1, s => takeN s :: wordsN n (skipN s)
theorem wordsN_get : ∀ (n i : Nat) (s : List UInt8), i < n → (wordsN n (nat s))[i]? = some (nat (wordU s i))
  | 0, i, s, h => by omega
  | n + 1, 0, s, h => by simp [wordsN, wordU, nat_take]
  | n + 1, i + 1, s, h => by
    simp only [wordsN, List.getElem?_cons_succ, ← nat_skip, wordU]
    exact wordsN_get n i (skipU s) (by omega)
def sec (k : Nat) : Bool := (1 ≤ k && k ≤ 5) || k == 19 || k == 20
def rowN (e : List Nat) : Nat × Nat × Nat :=
  if e = [45] ∨ e = [] then (0, 0, 0) else (fndN (prtN 58 e [] 0) (nat NAMES) [] 1, fndN (prtN 58 e [] 1) (nat KINDS) [] 1, fndN (prtN 58 e [] 2) (nat KINDS) [] 1)
def rowsN (w : List Nat) : List (Nat × Nat × Nat) := if w.head? = some 47 then (List.range 8).map fun k => rowN (prtN 47 w [] (k + 1)) else [rowN w]
theorem lit_words : (wordsN 256 (nat TBL)).map rowsN = LIT := by kernel_rfl
/-! ### what a first byte says -/
def entN (w : List Nat) : List (List Nat) := if w.head? = some 47 then (List.range 8).map fun k => prtN 47 w [] (k + 1) else [w]
theorem lit_ok : (wordsN 256 (nat TBL)).all (fun w => (entN w).all fun e => decide (e = [45]) || decide (e = []) || !((rowN e).1 == 0)) = true := by kernel_rfl
def rw' (x : Nat × Nat × Nat) : Row × Bool := if x.1 = 0 then (⟨0, 0, 0, false⟩, false) else (⟨x.1, x.2.1, x.2.2, sec x.2.1 || sec x.2.2⟩, true)
def look (op k : Nat) : Nat × Nat × Nat := match LIT[op]? with
  | some l => if l.length = 1 then l.getD 0 (0, 0, 0) else l.getD k (0, 0, 0)
  | none => (0, 0, 0)
theorem tbl_len : TBL.length ≤ 100000 := by decide
theorem skipU_le : ∀ (s : List UInt8), (skipU s).length ≤ s.length
  | [] => by simp [skipU]
  | c :: r => by
    have := skipU_le r
    simp only [skipU, List.length_cons]
    split <;> omega
theorem wordU_len : ∀ (n : Nat) (s : List UInt8), (wordU s n).length ≤ s.length
  | 0, s => takeU_len s
  | n + 1, s => Nat.le_trans (wordU_len n (skipU s)) (skipU_le s)
theorem nat_head (w : List UInt8) : (nat w).head? = w.head?.map UInt8.toNat := by cases w <;> rfl
theorem lit_at (op : Nat) (h : op < 256) : LIT[op]? = some (rowsN (nat (wordU TBL op))) := by
  rw [← lit_words, List.getElem?_map, wordsN_get 256 op TBL h]; rfl
theorem ent_ok (op : Nat) (h : op < 256) : ∀ e ∈ entN (nat (wordU TBL op)), e = [45] ∨ e = [] ∨ (rowN e).1 ≠ 0 := by
  intro e he
  have h1 := lit_ok
  rw [List.all_eq_true] at h1
  have h2 := h1 (nat (wordU TBL op)) (List.mem_of_getElem? (wordsN_get 256 op TBL h))
  rw [List.all_eq_true] at h2
  have h3 := h2 e he
  simp only [Bool.or_eq_true, decide_eq_true_eq, Bool.not_eq_true', beq_eq_false_iff_ne] at h3
  rcases h3 with (h3 | h3) | h3
  · exact .inl h3
  · exact .inr (.inl h3)
  · exact .inr (.inr h3)
theorem entry_spec (op : Nat) (h : op < 256) (reg : Int) : ∃ e, hansomref04_Entry (op : Int) reg = some e ∧ e.length ≤ 100000 ∧ nat e ∈ entN (nat (wordU TBL op)) ∧ look op (reg % 8).toNat = rowN (nat e) := by
  have w0 : IntKind.wrap .i64 (op : Int) = (op : Int) := wrap64 (by omega) (by omega)
  have hw := word_spec TBL op tbl_len (by omega)
  have hl := wordU_len op TBL
  have ht := tbl_len
  have a7 : bitsOp .and .i64 reg 7 = reg % 8 := and_mask reg 3 (by omega)
  have hk : reg % 8 = (((reg % 8).toNat : Nat) : Int) := by omega
  have hk8 : (reg % 8).toNat < 8 := by omega
  unfold hansomref04_Entry
  show ∃ e, ((hansomref04_word TBL (IntKind.wrap .i64 (op : Int))).bind _) = some e ∧ _
  rw [w0, hw, Option.bind_some]
  have hla := lit_at op h
  generalize wordU TBL op = w at *
  unfold look
  rw [hla]
  cases w with
  | nil =>
    simp only [List.length_nil, Int.natCast_zero, show ¬ (0 : Int) > 0 from by omega, decide_false, Bool.false_eq_true, if_false]
    exact ⟨[], rfl, by simp, by simp [entN, nat], by simp [rowsN, nat]⟩
  | cons c r =>
    simp only [show (((c :: r).length : Nat) : Int) > 0 from by simp, decide_true, if_true]
    rw [show idx (c :: r) 0 = some c from rfl, Option.bind_some]
    by_cases hc : c.toNat = 47
    · have hc' : (((c.toNat : Nat) : Int) == 47) = true := by simp [hc]
      simp only [hc', if_true, a7]
      rw [hk, wrap64 (by omega) (by omega)]
      have hp := part_spec (c :: r) 47 ((reg % 8).toNat + 1) (by omega) (by omega)
      rw [show (((reg % 8).toNat : Nat) : Int) + 1 = (((reg % 8).toNat + 1 : Nat) : Int) from by omega]
      rw [show ((47 : Nat) : Int) = 47 from rfl] at hp
      rw [hp, Option.bind_some]
      have hlen := prtU_len 47 (c :: r) [] ((reg % 8).toNat + 1)
      have hn : (nat (c :: r)).head? = some 47 := by rw [nat_head]; simp [hc]
      refine ⟨_, rfl, by simp only [List.length_nil] at hlen; omega, ?_, ?_⟩
      · rw [nat_prt]
        unfold entN
        rw [if_pos hn]
        exact List.mem_map.2 ⟨(reg % 8).toNat, List.mem_range.2 hk8, rfl⟩
      · rw [nat_prt]
        simp only [rowsN, hn, if_true]
        have e1 : ((List.range 8).map fun k => rowN (prtN 47 (nat (c :: r)) [] (k + 1))).length = 8 := by simp
        rw [e1, if_neg (by omega), List.getD_eq_getElem?_getD, List.getElem?_map, Int.toNat_natCast, List.getElem?_range hk8]
        rfl
    · have hc' : (((c.toNat : Nat) : Int) == 47) = false := by simp; omega
      simp only [hc', Bool.false_eq_true, if_false]
      have hn : ¬ (nat (c :: r)).head? = some 47 := by rw [nat_head]; simp [hc]
      refine ⟨_, rfl, by omega, ?_, ?_⟩
      · unfold entN; rw [if_neg hn]; simp
      · simp [rowsN, hn]
theorem second_spec (k : Nat) : hansomref04_second (k : Int) = some (sec k) := by
  by_cases hk : k < 21
  · have : ∀ k : Fin 21, hansomref04_second (k.val : Int) = some (sec k.val) := by decide
    exact this ⟨k, hk⟩
  · unfold hansomref04_second sec
    have h1 : (k : Int) ≥ 1 := by omega
    have h2 : ¬ (k : Int) ≤ 5 := by omega
    have h3 : ((k : Int) == 19) = false := by simp; omega
    have h4 : ((k : Int) == 20) = false := by simp; omega
    have n1 : ¬ k ≤ 5 := by omega
    have n2 : (k == 19) = false := by simp; omega
    have n3 : (k == 20) = false := by simp; omega
    simp only [h1, h2, h3, h4, n1, n2, n3, decide_true, decide_false, if_true, Bool.false_eq_true, if_false, Bool.and_false, Bool.or_false]
theorem row_spec (op : Nat) (h : op < 256) (reg : Int) : hansomref04_Row (op : Int) reg = some (rw' (look op (reg % 8).toNat)) := by
  obtain ⟨e, h1, h2, h3, h4⟩ := entry_spec op h reg
  have hok := ent_ok op h _ h3
  unfold hansomref04_Row
  rw [h1, Option.bind_some, h4]
  have b1 : (e == [45]) = decide (nat e = [45]) := by
    rw [Bool.eq_iff_iff]; simp only [beq_iff_eq, decide_eq_true_eq]; exact (nat_inj (b := [45])).symm
  have b2 : (e == []) = decide (nat e = []) := by
    rw [Bool.eq_iff_iff]; simp only [beq_iff_eq, decide_eq_true_eq]; exact (nat_inj (b := [])).symm
  simp only [b1, b2]
  by_cases c1 : nat e = [45]
  · simp [c1, rw', rowN]
  by_cases c2 : nat e = []
  · simp [c2, rw', rowN]
  simp only [c1, c2, decide_false, Bool.false_eq_true, if_false]
  have hne : (rowN (nat e)).1 ≠ 0 := by
    rcases hok with h | h | h
    · exact absurd h c1
    · exact absurd h c2
    · exact h
  have p0 : hansomref04_part e 58 0 = some (prtU 58 e [] 0) := part_spec e 58 0 h2 (by omega)
  have p1 : hansomref04_part e 58 1 = some (prtU 58 e [] 1) := part_spec e 58 1 h2 (by omega)
  have p2 : hansomref04_part e 58 2 = some (prtU 58 e [] 2) := part_spec e 58 2 h2 (by omega)
  have f0 : hansomref04_Find (prtU 58 e [] 0) = some ((fndU (prtU 58 e [] 0) NAMES [] 1 : Nat) : Int) := by
    unfold hansomref04_Find
    show ((hansomref04_find NAMES _).bind _) = _
    rw [find_spec NAMES _ (by decide)]; rfl
  have f1 := find_spec KINDS (prtU 58 e [] 1) (by decide)
  have f2 := find_spec KINDS (prtU 58 e [] 2) (by decide)
  rw [p0, Option.bind_some, f0, Option.bind_some, p1, Option.bind_some]
  show ((hansomref04_find KINDS (prtU 58 e [] 1)).bind _) = _
  rw [f1, Option.bind_some, p2, Option.bind_some]
  show ((hansomref04_find KINDS (prtU 58 e [] 2)).bind _) = _
  rw [f2, Option.bind_some, second_spec, Option.bind_some, second_spec]
  have q0 : rowN (nat e) = (fndU (prtU 58 e [] 0) NAMES [] 1, fndU (prtU 58 e [] 1) KINDS [] 1, fndU (prtU 58 e [] 2) KINDS [] 1) := by
    unfold rowN
    rw [if_neg (by rintro (h | h); exact c1 h; exact c2 h), nat_fnd, nat_fnd, nat_fnd, nat_prt, nat_prt, nat_prt]
    rfl
  rw [q0] at hne ⊢
  unfold rw'
  rw [if_neg hne]
  simp only
  cases sec (fndU (prtU 58 e [] 1) KINDS [] 1) <;> simp
theorem of_lit : ∀ op : Fin 256, ∀ k : Fin 8, isa_Of (op.val : Int) (k.val : Int) = some (rw' (look op.val k.val)) := by decide +kernel
theorem of_mod (op reg : Int) : isa_Of op reg = isa_Of op (reg % 8) := by
  have a1 : bitsOp .and .i64 reg 7 = reg % 8 := and_mask reg 3 (by omega)
  have a2 : bitsOp .and .i64 (reg % 8) 7 = reg % 8 % 8 := and_mask _ 3 (by omega)
  unfold isa_Of
  rw [a1, a2, Int.emod_emod]
theorem of_spec (op : Nat) (h : op < 256) (reg : Int) : isa_Of (op : Int) reg = some (rw' (look op (reg % 8).toNat)) := by
  rw [of_mod]
  have := of_lit ⟨op, h⟩ ⟨(reg % 8).toNat, by omega⟩
  simp only at this
  rw [show (((reg % 8).toNat : Nat) : Int) = reg % 8 from by omega] at this
  exact this

theorem name_len : NAMES.length ≤ 100000 := by decide
def clsU (w : List UInt8) : Int := if w == [77, 79, 86, 83, 66] then 1 else if w == [77, 79, 86, 83, 87] then 1 else if w == [83, 84, 79, 83, 66] then 1 else if w == [83, 84, 79, 83, 87] then 1 else if w == [76, 79, 68, 83, 66] then 1 else if w == [76, 79, 68, 83, 87] then 1 else if w == [67, 77, 80, 83, 66] then 2 else if w == [67, 77, 80, 83, 87] then 2 else if w == [83, 67, 65, 83, 66] then 2 else if w == [83, 67, 65, 83, 87] then 2 else 0
def repI (n : Int) : Int := if n == 46 then 1 else if n == 47 then 1 else if n == 50 then 1 else if n == 51 then 1 else if n == 52 then 1 else if n == 53 then 1 else if n == 48 then 2 else if n == 49 then 2 else if n == 54 then 2 else if n == 55 then 2 else 0
theorem isaRep (n : Int) : isa_Repeats n = some (repI n) := by
  unfold isa_Repeats isa_Repeats_j28 repI
  by_cases h46 : (n == 46) = true
  · simp only [beq_iff_eq] at h46; subst h46; rfl
  rw [Bool.not_eq_true] at h46
  by_cases h47 : (n == 47) = true
  · simp only [beq_iff_eq] at h47; subst h47; rfl
  rw [Bool.not_eq_true] at h47
  by_cases h50 : (n == 50) = true
  · simp only [beq_iff_eq] at h50; subst h50; rfl
  rw [Bool.not_eq_true] at h50
  by_cases h51 : (n == 51) = true
  · simp only [beq_iff_eq] at h51; subst h51; rfl
  rw [Bool.not_eq_true] at h51
  by_cases h52 : (n == 52) = true
  · simp only [beq_iff_eq] at h52; subst h52; rfl
  rw [Bool.not_eq_true] at h52
  by_cases h53 : (n == 53) = true
  · simp only [beq_iff_eq] at h53; subst h53; rfl
  rw [Bool.not_eq_true] at h53
  by_cases h48 : (n == 48) = true
  · simp only [beq_iff_eq] at h48; subst h48; rfl
  rw [Bool.not_eq_true] at h48
  by_cases h49 : (n == 49) = true
  · simp only [beq_iff_eq] at h49; subst h49; rfl
  rw [Bool.not_eq_true] at h49
  by_cases h54 : (n == 54) = true
  · simp only [beq_iff_eq] at h54; subst h54; rfl
  rw [Bool.not_eq_true] at h54
  by_cases h55 : (n == 55) = true
  · simp only [beq_iff_eq] at h55; subst h55; rfl
  rw [Bool.not_eq_true] at h55
  simp only [h46, h47, h50, h51, h52, h53, h48, h49, h54, h55, Bool.false_eq_true, if_false]
theorem refRep_of (n : Int) (w : List UInt8) (hn : hansomref04_Name n = some w) : hansomref04_Repeats n = some (clsU w) := by
  unfold hansomref04_Repeats hansomref04_Repeats_j28 clsU
  rw [hn, Option.bind_some]
  by_cases h0 : (w == [77, 79, 86, 83, 66]) = true
  · simp only [beq_iff_eq] at h0; subst h0; rfl
  rw [Bool.not_eq_true] at h0
  by_cases h1 : (w == [77, 79, 86, 83, 87]) = true
  · simp only [beq_iff_eq] at h1; subst h1; rfl
  rw [Bool.not_eq_true] at h1
  by_cases h2 : (w == [83, 84, 79, 83, 66]) = true
  · simp only [beq_iff_eq] at h2; subst h2; rfl
  rw [Bool.not_eq_true] at h2
  by_cases h3 : (w == [83, 84, 79, 83, 87]) = true
  · simp only [beq_iff_eq] at h3; subst h3; rfl
  rw [Bool.not_eq_true] at h3
  by_cases h4 : (w == [76, 79, 68, 83, 66]) = true
  · simp only [beq_iff_eq] at h4; subst h4; rfl
  rw [Bool.not_eq_true] at h4
  by_cases h5 : (w == [76, 79, 68, 83, 87]) = true
  · simp only [beq_iff_eq] at h5; subst h5; rfl
  rw [Bool.not_eq_true] at h5
  by_cases h6 : (w == [67, 77, 80, 83, 66]) = true
  · simp only [beq_iff_eq] at h6; subst h6; rfl
  rw [Bool.not_eq_true] at h6
  by_cases h7 : (w == [67, 77, 80, 83, 87]) = true
  · simp only [beq_iff_eq] at h7; subst h7; rfl
  rw [Bool.not_eq_true] at h7
  by_cases h8 : (w == [83, 67, 65, 83, 66]) = true
  · simp only [beq_iff_eq] at h8; subst h8; rfl
  rw [Bool.not_eq_true] at h8
  by_cases h9 : (w == [83, 67, 65, 83, 87]) = true
  · simp only [beq_iff_eq] at h9; subst h9; rfl
  rw [Bool.not_eq_true] at h9
  simp only [h0, h1, h2, h3, h4, h5, h6, h7, h8, h9, Bool.false_eq_true, if_false]
theorem cls_lit : (List.range 95).map (fun i => clsU (wordU NAMES i)) = (List.range 95).map (fun i => repI ((i + 1 : Nat) : Int)) := by decide +kernel
theorem refRep (n : Int) : hansomref04_Repeats n = some (repI n) := by
  by_cases h1 : n < 1
  · rw [refRep_of n [63] (by unfold hansomref04_Name; simp [h1])]
    have : repI n = 0 := by
      unfold repI
      have n46 : (n == 46) = false := by simp; omega
      have n47 : (n == 47) = false := by simp; omega
      have n50 : (n == 50) = false := by simp; omega
      have n51 : (n == 51) = false := by simp; omega
      have n52 : (n == 52) = false := by simp; omega
      have n53 : (n == 53) = false := by simp; omega
      have n48 : (n == 48) = false := by simp; omega
      have n49 : (n == 49) = false := by simp; omega
      have n54 : (n == 54) = false := by simp; omega
      have n55 : (n == 55) = false := by simp; omega
      simp only [n46, n47, n50, n51, n52, n53, n48, n49, n54, n55, Bool.false_eq_true, if_false]
    rw [this]; rfl
  · by_cases h2 : n > 95
    · rw [refRep_of n [63] (by unfold hansomref04_Name; simp [h1, h2])]
      have : repI n = 0 := by
        unfold repI
        have n46 : (n == 46) = false := by simp; omega
        have n47 : (n == 47) = false := by simp; omega
        have n50 : (n == 50) = false := by simp; omega
        have n51 : (n == 51) = false := by simp; omega
        have n52 : (n == 52) = false := by simp; omega
        have n53 : (n == 53) = false := by simp; omega
        have n48 : (n == 48) = false := by simp; omega
        have n49 : (n == 49) = false := by simp; omega
        have n54 : (n == 54) = false := by simp; omega
        have n55 : (n == 55) = false := by simp; omega
        simp only [n46, n47, n50, n51, n52, n53, n48, n49, n54, n55, Bool.false_eq_true, if_false]
      rw [this]; rfl
    · obtain ⟨k, rfl⟩ : ∃ k : Nat, n = ((k + 1 : Nat) : Int) := ⟨(n - 1).toNat, by omega⟩
      have hk : k < 95 := by omega
      have hN : hansomref04_Name ((k + 1 : Nat) : Int) = some (wordU NAMES k) := by
        unfold hansomref04_Name
        simp only [h1, h2, decide_false, Bool.false_eq_true, if_false]
        show ((hansomref04_word NAMES (IntKind.wrap .i64 (((k + 1 : Nat) : Int) - 1))).bind _) = _
        rw [wrap64 (by omega) (by omega), show ((k + 1 : Nat) : Int) - 1 = (k : Int) from by omega, word_spec NAMES k name_len (by omega)]
        rfl
      rw [refRep_of _ _ hN]
      have := congrArg (fun l => l[k]?) cls_lit
      simp only [List.getElem?_map, List.getElem?_range hk, Option.map_some] at this
      exact this

def isP (b : Nat) : Bool := b == 38 || b == 46 || b == 54 || b == 62 || b == 240 || b == 242 || b == 243
theorem prefix_lit : ∀ b : Fin 256, isa_Prefix (b.val : Int) = some (isP b.val) := by decide +kernel

/-! ### instructions that may be -/
theorem iteF (c b : Bool) : (if c = true then some false else some b) = some (!c && b) := by cases c <;> rfl
theorem iteT (c b : Bool) : (if c = true then some b else some false) = some (c && b) := by cases c <;> rfl
theorem iteB (c b : Bool) : (if c = true then b else false) = (c && b) := by cases c <;> rfl
theorem iteN (c b : Bool) : (if c = true then false else b) = (!c && b) := by cases c <;> rfl
theorem iteS (c a b : Bool) : (if c = true then some a else some b) = some (if c = true then a else b) := by cases c <;> rfl
def bytI (k : Int) : Int := if k == 6 then 1 else if k == 8 then 1 else if k == 9 then 1 else if k == 7 then 2 else if k == 10 then 2 else if k == 12 then 2 else if k == 13 then 2 else if k == 11 then 4 else 0
theorem bytes_spec (k : Int) : hansomref04_Bytes k = some (bytI k) := by
  unfold hansomref04_Bytes hansomref04_Bytes_j16 bytI
  cases h1 : (k == 6)
  · cases h2 : (k == 8)
    · cases h3 : (k == 9)
      · cases h4 : (k == 7)
        · cases h5 : (k == 10)
          · cases h6 : (k == 12)
            · cases h7 : (k == 13)
              · cases h8 : (k == 11) <;> rfl
              · rfl
            · rfl
          · rfl
        · rfl
      · rfl
    · rfl
  · rfl
def fitB (w : Int) : Bool := decide (w < 128) || decide (w ≥ 65408)
theorem refFits (w : Int) : hansomref01_Fits w = some (fitB w) := by
  unfold hansomref01_Fits fitB
  cases h : decide (w < 128) <;> simp
theorem wrap_i8' (n : Int) : IntKind.wrap .i8 n = (n + 128) % 256 - 128 := by
  simp only [IntKind.wrap, IntKind.bits, IntKind.signed]
  simp [Int.bmod_def]
  split <;> omega
theorem wrap_i16' (n : Int) : IntKind.wrap .i16 n = (n + 32768) % 65536 - 32768 := by
  simp only [IntKind.wrap, IntKind.bits, IntKind.signed]
  simp [Int.bmod_def]
  split <;> omega
theorem wrap_u8' (n : Int) : IntKind.wrap .u8 n = n % 256 := by simp [IntKind.wrap, IntKind.bits, IntKind.signed]
def sgn (b : Int) : Int := if b < 128 then b else b + 65280
theorem bitsSign {b : Int} (h0 : 0 ≤ b) (h1 : b ≤ 255) : bits_Sign b = some (sgn b) := by
  unfold bits_Sign sgn
  rw [wrap_i8', wrap_i16', wrap_u16']
  congr 1
  split <;> omega
theorem bitsFits {w : Int} (h0 : 0 ≤ w) (h1 : w ≤ 65535) : bits_Fits w = some (fitB w) := by
  unfold bits_Fits bits_Low
  rw [Option.bind_some, wrap_u8', bitsSign (by omega) (by omega), Option.bind_some]
  congr 1
  rw [Bool.eq_iff_iff]
  unfold sgn fitB
  simp only [beq_iff_eq, Bool.or_eq_true, decide_eq_true_eq]
  split <;> omega
def dispI (m r : Int) : Int := if m == 1 then 1 else if m == 2 then 2 else if m == 0 then (if r == 6 then 2 else 0) else 0
theorem instDisps (m r : Int) : inst_Disps m r = some (dispI m r) := by
  unfold inst_Disps dispI
  cases (m == 1) <;> cases (m == 2) <;> cases (m == 0) <;> cases (r == 6) <;> rfl
theorem refDisps (m r : Int) : hansomref05_Disps m r = some (dispI m r) := by
  unfold hansomref05_Disps dispI
  cases (m == 1) <;> cases (m == 2) <;> cases (m == 0) <;> cases (r == 6) <;> rfl
theorem dispI_lo (m r : Int) : dispI m r = 0 ∨ dispI m r = 1 ∨ dispI m r = 2 := by
  unfold dispI
  repeat' split
  all_goals simp
/-- what an operand says of what stands behind -/
def stepB (i : Inst) (r : Row) (k : Int) : Option Bool :=
  if k == 6 then some (decide (i.Imm < 256) && (i.Sel == 0 && (if (r.Name != 70) = true then (if (r.Name != 71) = true then true else i.Imm == 10) else i.Imm == 10)))
  else if k == 8 then some (fitB i.Imm && i.Sel == 0) else if k == 9 then some (fitB i.Imm && i.Sel == 0)
  else if k == 7 then some (i.Sel == 0) else if k == 10 then some (i.Sel == 0) else if k == 12 then some (i.Sel == 0) else if k == 13 then some (i.Sel == 0)
  else if k == 11 then some true else none
theorem stepB_none (i : Inst) (r : Row) (k : Int) : stepB i r k = none ↔ bytI k = 0 := by
  unfold stepB bytI
  cases (k == 6) <;> cases (k == 8) <;> cases (k == 9) <;> cases (k == 7) <;> cases (k == 10) <;> cases (k == 12) <;> cases (k == 13) <;> cases (k == 11) <;> simp
def behB (i : Inst) (r : Row) : Bool := match stepB i r (if bytI r.A == 0 then r.B else r.A) with
  | some b => b
  | none => i.Imm == 0 && i.Sel == 0
theorem ref82t (i : Inst) (k : Int) : hansomref05_May_j82 i k true = some (fitB i.Imm && i.Sel == 0) := by
  unfold hansomref05_May_j82
  simp only [refFits, Option.bind_some, if_true, iteT]
theorem ref66 (i : Inst) (r : Row) (k : Int) : hansomref05_May_j66 i r k = some (match stepB i r k with | some b => b | none => i.Imm == 0 && i.Sel == 0) := by
  unfold hansomref05_May_j66 stepB
  rw [ref82t]
  cases h6 : (k == 6) with
  | true =>
    simp only [if_true]
    cases decide (i.Imm < 256) <;> cases (i.Sel == 0) <;> cases (r.Name != 70) <;> cases (r.Name != 71) <;> rfl
  | false =>
    simp only [Bool.false_eq_true, if_false]
    cases h8 : (k == 8) with
    | true => rfl
    | false =>
      simp only [Bool.false_eq_true, if_false]
      cases h9 : (k == 9) with
      | true => rw [ref82t]; rfl
      | false =>
        unfold hansomref05_May_j82
        cases (k == 7) <;> cases (k == 10) <;> cases (k == 12) <;> cases (k == 13) <;> cases (k == 11) <;> cases (i.Imm == 0) <;> rfl
theorem ref58 (i : Inst) (r : Row) : hansomref05_May_j58 i r = some (behB i r) := by
  unfold hansomref05_May_j58 behB
  rw [bytes_spec, Option.bind_some, ref66, ref66]
  cases (bytI r.A == 0) <;> rfl
theorem beh6 (i : Inst) (r : Row) (t : A2 Int) (n z : Int) (h0 : 0 ≤ i.Imm) (h1 : i.Imm ≤ 65535) (hn : n < 2) (hz : idx t.l n = some z) :
    inst_behind_l6 i r t n = (match stepB i r z with | some b => some (.out (.inl b)) | none => some (.next (IntKind.wrap .i64 (n + 1)))) := by
  unfold inst_behind_l6 inst_behind_j32 stepB
  simp only [hn, decide_true, if_true, hz, Option.bind_some, bitsFits h0 h1]
  cases (z == 6) with
  | true =>
    simp only [if_true]
    cases decide (i.Imm < 256) <;> cases (i.Sel == 0) <;> cases (r.Name != 70) <;> cases (r.Name != 71) <;> rfl
  | false =>
    cases (z == 8) <;> cases (z == 9) <;> cases (z == 7) <;> cases (z == 10) <;> cases (z == 12) <;> cases (z == 13) <;> cases (z == 11) <;> cases fitB i.Imm <;> rfl
theorem behind_spec (i : Inst) (r : Row) (h0 : 0 ≤ i.Imm) (h1 : i.Imm ≤ 65535) : inst_behind i r = some (behB i r) := by
  unfold inst_behind
  have e0 := beh6 i r ⟨r.A, r.B⟩ 0 r.A h0 h1 (by omega) rfl
  have e1 := beh6 i r ⟨r.A, r.B⟩ 1 r.B h0 h1 (by omega) rfl
  have e2 : inst_behind_l6 i r ⟨r.A, r.B⟩ 2 = some (.out (.inr ())) := by unfold inst_behind_l6; rfl
  unfold behB
  rw [loopO_eq, e0]
  cases hA : stepB i r r.A with
  | some b =>
    have : ¬ bytI r.A = 0 := fun h => by rw [(stepB_none i r r.A).2 h] at hA; cases hA
    have hb : (bytI r.A == 0) = false := by simpa using this
    simp only [hb, Bool.false_eq_true, if_false, hA, Option.bind_some]
  | none =>
    have hb : (bytI r.A == 0) = true := by simpa using (stepB_none i r r.A).1 hA
    simp only [hb, if_true, Option.bind_some]
    rw [show IntKind.wrap .i64 (0 + 1) = 1 from rfl, loopO_eq, e1]
    cases hB : stepB i r r.B with
    | some b => simp only [Option.bind_some]
    | none =>
      simp only [Option.bind_some]
      rw [show IntKind.wrap .i64 (1 + 1) = 2 from rfl, loopO_eq, e2]
      simp only [Option.bind_some, iteT]
def rowI (op reg : Int) : Row × Bool := if isP op.toNat then (⟨0, 0, 0, false⟩, false) else rw' (look op.toNat (reg % 8).toNat)
theorem refPrefix : ∀ b : Fin 256, hansomref05_prefix (b.val : Int) = some (isP b.val) := by decide +kernel
theorem instRow (i : Inst) (h : 0 ≤ i.Op ∧ i.Op ≤ 255) : inst_Row i = some (rowI i.Op i.Reg) := by
  obtain ⟨n, hn⟩ : ∃ n : Nat, i.Op = n := ⟨i.Op.toNat, by omega⟩
  have hn' : n < 256 := by omega
  have hp := prefix_lit ⟨n, hn'⟩
  unfold inst_Row rowI
  rw [hn, hp, Option.bind_some, of_spec n hn']
  simp only [Int.toNat_natCast]
  cases isP n <;> rfl
theorem refRow (i : Inst) (h : 0 ≤ i.Op ∧ i.Op ≤ 255) : hansomref05_Row i = some (rowI i.Op i.Reg) := by
  obtain ⟨n, hn⟩ : ∃ n : Nat, i.Op = n := ⟨i.Op.toNat, by omega⟩
  have hn' : n < 256 := by omega
  have hp := refPrefix ⟨n, hn'⟩
  unfold hansomref05_Row rowI
  rw [hn, hp, Option.bind_some, row_spec n hn']
  simp only [Int.toNat_natCast]
  cases isP n <;> rfl
def secB (i : Inst) (r : Row) : Bool :=
  if r.Mod = true then
    !decide (i.Mod < 0) && (!decide (i.Mod > 3) && (!decide (i.Reg < 0) && (!decide (i.Reg > 7) && (!decide (i.RM < 0) && (!decide (i.RM > 7) &&
      ((if (i.Mod == 3) = true then !(r.A == 19) && (!(r.A == 20) && (!(r.B == 19) && !(r.B == 20))) else true) &&
        (if (dispI i.Mod i.RM == 0) = true then i.Disp == 0 else if (dispI i.Mod i.RM == 1) = true then fitB i.Disp else true)))))))
  else i.Mod == 0 && (i.Reg == 0 && (i.RM == 0 && i.Disp == 0))
theorem second26 (i : Inst) (h0 : 0 ≤ i.Disp) (h1 : i.Disp ≤ 65535) : inst_second_j26 i = some (if (dispI i.Mod i.RM == 0) = true then i.Disp == 0 else if (dispI i.Mod i.RM == 1) = true then fitB i.Disp else true) := by
  unfold inst_second_j26
  simp only [instDisps, Option.bind_some, bitsFits h0 h1, iteS]
theorem instSecond (i : Inst) (r : Row) (h0 : 0 ≤ i.Disp) (h1 : i.Disp ≤ 65535) (hA : r.A ≠ 20) : inst_second i r = some (secB i r) := by
  unfold inst_second secB
  have hA' : (r.A == 20) = false := by simpa using hA
  simp only [second26 i h0 h1, iteT, iteF, iteS, iteB, iteN, hA', Bool.not_false, Bool.true_and]
  cases r.Mod with
  | false => rfl
  | true =>
    simp only [Bool.not_true, Bool.false_eq_true, if_false, if_true]
    cases (i.Mod == 3) <;> cases (r.A == 19) <;> cases (r.B == 19) <;> cases (r.B == 20) <;> simp
theorem ref49 (i : Inst) (r : Row) : hansomref05_May_j49 i r = some ((if (dispI i.Mod i.RM == 0) = true then i.Disp == 0 else if (dispI i.Mod i.RM == 1) = true then fitB i.Disp else true) && behB i r) := by
  unfold hansomref05_May_j49
  simp only [refDisps, Option.bind_some, refFits, ref58, iteF, Bool.not_not]
  rcases dispI_lo i.Mod i.RM with h | h | h <;> rw [h]
  · cases hd : (i.Disp == 0) <;> simp [bne, hd]
  · simp
  · simp
theorem ref22 (i : Inst) (r : Row) : hansomref05_May_j22 i r = some (secB i r && behB i r) := by
  unfold hansomref05_May_j22 secB
  simp only [ref58, ref49, iteF, iteT, bne]
  cases r.Mod with
  | false =>
    simp only [Bool.not_false, if_true, Bool.not_not, Bool.false_eq_true, if_false, Bool.and_assoc]
  | true =>
    simp only [Bool.not_true, Bool.false_eq_true, if_false, if_true, iteS, iteB, iteN]
    cases (i.Mod == 3) <;> simp [Bool.and_assoc]
def preB (i : Inst) (r : Row) : Bool := (decide (i.Seg ≥ 0) && decide (i.Seg ≤ 4)) && (i.Rep == 0 || (i.Rep == 1 && !decide (repI r.Name < 2)) || (i.Rep == 2 && !decide (repI r.Name < 1)))
theorem instPrefixes (i : Inst) (r : Row) : inst_prefixes i r = some (preB i r) := by
  unfold inst_prefixes preB
  simp only [isaRep, Option.bind_some, iteT, iteF, iteS, iteB, iteN]
  congr 1
  by_cases h0 : i.Rep = 0
  · simp [h0]
  · by_cases h1 : i.Rep = 1
    · simp [h1, Bool.and_comm]
    · by_cases h2 : i.Rep = 2
      · simp [h2, Bool.and_comm]
      · have b0 : (i.Rep == 0) = false := by simpa using h0
        have b1 : (i.Rep == 1) = false := by simpa using h1
        have b2 : (i.Rep == 2) = false := by simpa using h2
        simp [b0, b1, b2]
def mayB (i : Inst) : Bool := (rowI i.Op i.Reg).2 && (secB i (rowI i.Op i.Reg).1 && (behB i (rowI i.Op i.Reg).1 && preB i (rowI i.Op i.Reg).1))
def okI (i : Inst) : Prop := (0 ≤ i.Op ∧ i.Op ≤ 255) ∧ (0 ≤ i.Disp ∧ i.Disp ≤ 65535) ∧ (0 ≤ i.Imm ∧ i.Imm ≤ 65535) ∧ (0 ≤ i.Sel ∧ i.Sel ≤ 65535)
/-- what the table says of its rows -/
def tblB (x : Nat × Nat × Nat) : Bool := x.2.1 != 20 && (let a := bytI x.2.1; let b := bytI x.2.2; (a + b == 0 || a + b == 1 || a + b == 2 || (a + b == 4 && !(sec x.2.1 || sec x.2.2))) && (!decide (repI x.1 ≥ 1) || (a + b == 0 && !(sec x.2.1 || sec x.2.2))))
theorem tbl_ok : LIT.all (fun l => l.all tblB) = true := by decide +kernel
theorem look_ok (op k : Nat) : tblB (look op k) = true := by
  have h := tbl_ok
  rw [List.all_eq_true] at h
  unfold look
  cases hl : LIT[op]? with
  | none => rfl
  | some l =>
    have h1 := h l (List.mem_of_getElem? hl)
    rw [List.all_eq_true] at h1
    have g : ∀ j, tblB (l.getD j (0, 0, 0)) = true := fun j => by
      rw [List.getD_eq_getElem?_getD]
      cases hj : l[j]? with
      | none => rfl
      | some x => exact h1 x (List.mem_of_getElem? hj)
    simp only
    split
    · exact g 0
    · exact g k
theorem row_facts (op reg : Int) (h : (rowI op reg).2 = true) : (rowI op reg).1.A ≠ 20 ∧ (bytI (rowI op reg).1.A + bytI (rowI op reg).1.B = 0 ∨ bytI (rowI op reg).1.A + bytI (rowI op reg).1.B = 1 ∨ bytI (rowI op reg).1.A + bytI (rowI op reg).1.B = 2 ∨
    bytI (rowI op reg).1.A + bytI (rowI op reg).1.B = 4 ∧ (rowI op reg).1.Mod = false) ∧ (repI (rowI op reg).1.Name ≥ 1 → bytI (rowI op reg).1.A + bytI (rowI op reg).1.B = 0 ∧ (rowI op reg).1.Mod = false) := by
  have hl := look_ok op.toNat (reg % 8).toNat
  unfold rowI at h ⊢
  cases hp : isP op.toNat with
  | true => rw [hp] at h; simp at h
  | false =>
    rw [hp] at h
    simp only [Bool.false_eq_true, if_false] at h ⊢
    generalize look op.toNat (reg % 8).toNat = x at *
    unfold rw' at h ⊢
    split at h
    · cases h
    · rename_i hx
      rw [if_neg hx]
      simp only
      simp only [tblB, Bool.and_eq_true, Bool.or_eq_true, bne_iff_ne, beq_iff_eq, Bool.not_eq_true', decide_eq_false_iff_not] at hl
      obtain ⟨l1, l2, l3⟩ := hl
      refine ⟨by omega, ?_, fun hr => ?_⟩
      · rcases l2 with ((h | h) | h) | h
        · exact .inl h
        · exact .inr (.inl h)
        · exact .inr (.inr (.inl h))
        · exact .inr (.inr (.inr h))
      · rcases l3 with h | h
        · exact absurd hr h
        · exact h
theorem instMay (i : Inst) (h : okI i) : inst_May i = some (mayB i) := by
  unfold inst_May mayB
  rw [instRow i h.1, Option.bind_some]
  cases hr : (rowI i.Op i.Reg).2 with
  | false => rfl
  | true =>
    have hf := row_facts i.Op i.Reg hr
    simp only [if_true]
    rw [instSecond i _ h.2.1.1 h.2.1.2 hf.1, Option.bind_some, behind_spec i _ h.2.2.1.1 h.2.2.1.2, Option.bind_some, instPrefixes, Option.bind_some]
    simp only [iteT, Bool.true_and]
theorem refMay (i : Inst) (h : okI i) : hansomref05_May i = some (mayB i) := by
  unfold hansomref05_May mayB
  rw [refRow i h.1, Option.bind_some]
  simp only [refRep, Option.bind_some, ref22, iteF, iteS, iteB, iteN]
  cases (rowI i.Op i.Reg).2 with
  | false => rfl
  | true =>
    simp only [Bool.not_true, Bool.not_false, Bool.true_and]
    unfold preB
    by_cases hs : 0 ≤ i.Seg ∧ i.Seg ≤ 4
    · have s1 : ¬ i.Seg < 0 := by omega
      have s2 : ¬ i.Seg > 4 := by omega
      have s3 : i.Seg ≥ 0 := by omega
      simp only [s1, s2, s3, hs.2, decide_true, decide_false, Bool.not_false, Bool.true_and]
      by_cases h0 : i.Rep = 0
      · simp [h0]
      · by_cases h1 : i.Rep = 1
        · simp [h1, Bool.and_comm, Bool.and_left_comm, Bool.and_assoc]
        · by_cases h2 : i.Rep = 2
          · simp [h2, Bool.and_comm, Bool.and_left_comm, Bool.and_assoc]
          · have : i.Rep < 0 ∨ i.Rep > 2 := by omega
            rcases this with h | h
            · simp [h0, h1, h2, h]
            · simp [h0, h1, h2, h]
    · have : i.Seg < 0 ∨ i.Seg > 4 := by omega
      rcases this with h | h
      · have : ¬ i.Seg ≥ 0 := by omega
        simp [h, this]
      · have : ¬ i.Seg ≤ 4 := by omega
        simp [h, this]

theorem i144 : okI ⟨false, 0, 0, 144, 0, 0, 0, 0, 0, 0⟩ ∧ mayB ⟨false, 0, 0, 144, 0, 0, 0, 0, 0, 0⟩ = true := by
  refine ⟨⟨by simp, by simp, by simp, by simp⟩, ?_⟩
  decide +kernel
theorem mayB_facts (i : Inst) (h : mayB i = true) : (rowI i.Op i.Reg).2 = true ∧ (0 ≤ i.Seg ∧ i.Seg ≤ 4) ∧ (0 ≤ i.Rep ∧ i.Rep ≤ 2) ∧ (i.Rep > 0 → repI (rowI i.Op i.Reg).1.Name ≥ 1) ∧
    ((rowI i.Op i.Reg).1.Mod = true → (0 ≤ i.Mod ∧ i.Mod ≤ 3) ∧ (0 ≤ i.Reg ∧ i.Reg ≤ 7) ∧ (0 ≤ i.RM ∧ i.RM ≤ 7)) := by
  simp only [mayB, Bool.and_eq_true] at h
  obtain ⟨h1, h2, h3, h4⟩ := h
  simp only [preB, Bool.and_eq_true, Bool.or_eq_true, beq_iff_eq, decide_eq_true_eq, Bool.not_eq_true', decide_eq_false_iff_not] at h4
  refine ⟨h1, h4.1, by omega, fun hr => by omega, fun hm => ?_⟩
  simp only [secB, hm, if_true, Bool.and_eq_true, Bool.not_eq_true', decide_eq_false_iff_not] at h2
  omega
def twoI (w : Int) : List Int := [w % 256, w / 256]
def behL (i : Inst) (m : Int) : List Int := if m = 1 ∨ m = 2 then (twoI i.Imm).take m.toNat else if m = 4 then twoI i.Imm ++ twoI i.Sel else []
def modL (i : Inst) (r : Row) : List Int := if r.Mod = true then (64 * i.Mod + 8 * i.Reg + i.RM) :: (twoI i.Disp).take (dispI i.Mod i.RM).toNat else []
def aheadL (i : Inst) : List Int := (if i.Lock then [240] else []) ++ ((if i.Rep > 0 then [241 + i.Rep] else []) ++ (if i.Seg > 0 then [30 + 8 * i.Seg] else []))
def putL (i : Inst) : List Int := aheadL i ++ ([i.Op] ++ (modL i (rowI i.Op i.Reg).1 ++ behL i (bytI (rowI i.Op i.Reg).1.A + bytI (rowI i.Op i.Reg).1.B)))
/-! ### an instruction near others -/
def NearOk (r : Option Inst) : Prop := ∃ y, r = some y ∧ okI y ∧ mayB y = true
theorem near100 (x i : Inst) (h : okI i) : NearOk (hansomref05_Near_j100 x i) := by
  unfold hansomref05_Near_j100
  have h' : okI ⟨i.Lock, i.Rep, bitsOp .and .i64 x.Seg 7, i.Op, i.Mod, i.Reg, i.RM, i.Disp, i.Imm, i.Sel⟩ := h
  rw [refMay i h, refMay _ h']
  split
  · rw [Option.bind_some]
    split
    · exact ⟨_, rfl, i144⟩
    · rename_i hm; exact ⟨_, rfl, h', by simpa using hm⟩
  · rw [Option.bind_some]
    split
    · exact ⟨_, rfl, i144⟩
    · rename_i hm; exact ⟨_, rfl, h, by simpa using hm⟩
theorem near86 (x i : Inst) (r : Row) (h : okI i) : NearOk (hansomref05_Near_j86 x i r) := by
  unfold hansomref05_Near_j86
  rw [refRep, Option.bind_some]
  repeat' split
  all_goals exact near100 _ _ h
theorem near79 (x i : Inst) (r : Row) (k : Int) (t : Bool) (h : okI i) (hx : okI x) : NearOk (hansomref05_Near_j79 x i r k t) := by
  unfold hansomref05_Near_j79
  repeat' split
  · exact near86 _ _ _ ⟨h.1, h.2.1, hx.2.2.1, h.2.2.2⟩
  · exact near86 _ _ _ ⟨h.1, h.2.1, hx.2.2.1, hx.2.2.2⟩
  · exact near86 _ _ _ h
theorem refSign {b : Int} (h0 : 0 ≤ b) (h1 : b ≤ 255) : hansomref01_Sign b = some (sgn b) := by
  have : ∀ n : Fin 256, hansomref01_Sign (n.val : Int) = some (sgn (n.val : Int)) := by decide +kernel
  have := this ⟨b.toNat, by omega⟩
  simp only at this
  rw [Int.toNat_of_nonneg h0] at this
  exact this
theorem sgn_lo {b : Int} (h0 : 0 ≤ b) (h1 : b ≤ 255) : 0 ≤ sgn b ∧ sgn b ≤ 65535 := by unfold sgn; split <;> omega
theorem low_lo {w : Int} (h0 : 0 ≤ w) : 0 ≤ IntKind.wrap .u8 (Int.tmod w 256) ∧ IntKind.wrap .u8 (Int.tmod w 256) ≤ 255 := by rw [wrap_u8']; omega
theorem near63 (x i : Inst) (r : Row) (k : Int) (t : Bool) (h : okI i) (hx : okI x) : NearOk (hansomref05_Near_j63 x i r k t) := by
  unfold hansomref05_Near_j63
  obtain ⟨l0, l1⟩ := low_lo hx.2.2.1.1
  rw [refSign l0 l1, Option.bind_some]
  repeat' split
  · exact near86 _ _ _ ⟨h.1, h.2.1, sgn_lo l0 l1, h.2.2.2⟩
  all_goals exact near79 _ _ _ _ _ h hx
theorem near43 (x i : Inst) (r : Row) (k : Int) (h : okI i) (hx : okI x) : NearOk (hansomref05_Near_j43 x i r k) := by
  unfold hansomref05_Near_j43
  repeat' split
  · exact near86 _ _ _ ⟨h.1, h.2.1, by simp, h.2.2.2⟩
  · exact near86 _ _ _ ⟨h.1, h.2.1, by simp, h.2.2.2⟩
  · refine near86 _ _ _ ⟨h.1, h.2.1, ?_, h.2.2.2⟩
    have := hx.2.2.1
    simp only
    rw [Int.tmod_eq_emod_of_nonneg this.1]; omega
  all_goals exact near63 _ _ _ _ _ h hx
theorem near35 (x i : Inst) (r : Row) (h : okI i) (hx : okI x) : NearOk (hansomref05_Near_j35 x i r) := by
  unfold hansomref05_Near_j35
  rw [bytes_spec, Option.bind_some]
  split
  · exact near43 _ _ _ _ h hx
  · exact near43 _ _ _ _ h hx
theorem near_spec (x : Inst) (hx : okI x) : NearOk (hansomref05_Near x) := by
  unfold hansomref05_Near
  rw [refRow _ (by exact hx.1), Option.bind_some]
  split
  · exact ⟨_, rfl, i144⟩
  · split
    · exact near35 _ _ _ ⟨hx.1, by simp, by simp, by simp⟩ hx
    · obtain ⟨l0, l1⟩ := low_lo hx.2.1.1
      rw [refDisps, Option.bind_some, refSign l0 l1, Option.bind_some]
      repeat' split
      · exact near35 _ _ _ ⟨hx.1, sgn_lo l0 l1, by simp, by simp⟩ hx
      · exact near35 _ _ _ ⟨hx.1, hx.2.1, by simp, by simp⟩ hx
      · exact near35 _ _ _ ⟨hx.1, by simp, by simp, by simp⟩ hx
theorem okI_wf {x : Inst} (h : Inst.wf x) : okI x := ⟨wfI_u8.1 h.2.2.2.1, wfI_u16.1 h.2.2.2.2.2.2.2.1, wfI_u16.1 h.2.2.2.2.2.2.2.2.1, wfI_u16.1 h.2.2.2.2.2.2.2.2.2⟩

/-! loops over a list, prefix by prefix -/
theorem pre_loop {α τ β : Type} (R : List α) (T : List α → τ) (J : List α → Prop) {f : τ → Option (Lp τ β)} (o : β)
    (h1 : ∀ xs v ys, R = xs ++ v :: ys → J xs → (f (T xs) = some (.next (T (xs ++ [v]))) ∧ J (xs ++ [v])) ∨ f (T xs) = some (.out o))
    (h2 : J R → f (T R) = some (.out o)) (h0 : J []) : loopO f (T []) = some o := by
  have key : ∀ ys xs, R = xs ++ ys → J xs → loopO f (T xs) = some o := by
    intro ys
    induction ys with
    | nil =>
      intro xs h hJ
      rw [List.append_nil] at h; subst h
      rw [loopO_eq, h2 hJ]; rfl
    | cons v ys ih =>
      intro xs h hJ
      rcases h1 xs v ys h hJ with ⟨h3, h4⟩ | h3
      · rw [loopO_eq, h3]
        exact ih (xs ++ [v]) (by rw [h, List.append_assoc]; rfl) h4
      · rw [loopO_eq, h3]; rfl
  exact key R [] rfl h0
theorem idx_mid {α : Type} {R xs ys : List α} {v : α} (h : R = xs ++ v :: ys) : idx R (xs.length : Int) = some v := by
  subst h
  rw [idx_nat (by simp)]
  simp
theorem len_lt {α : Type} {R xs ys : List α} {v : α} (h : R = xs ++ v :: ys) : xs.length < R.length := by subst h; simp
theorem len_snoc {α : Type} (xs : List α) (v : α) (h : (xs.length : Int) ≤ 1000) : IntKind.wrap .i64 ((xs.length : Int) + 1) = ((xs ++ [v]).length : Int) := by
  rw [wrap64 (by omega) (by omega)]; simp
/-- the words -/
def WW : List (List UInt8) := [[65, 68, 68], [79, 82], [65, 68, 67], [83, 66, 66], [65, 78, 68], [83, 85, 66], [88, 79, 82], [67, 77, 80], [80, 85, 83, 72], [80, 79, 80], [68, 65, 65], [68, 65, 83], [65, 65, 65], [65, 65, 83], [73, 78, 67], [68, 69, 67], [74, 79], [74, 78, 79], [74, 66], [74, 78, 66], [74, 90], [74, 78, 90], [74, 66, 69], [74, 65], [74, 83], [74, 78, 83], [74, 80], [74, 78, 80], [74, 76], [74, 71, 69], [74, 76, 69], [74, 71], [84, 69, 83, 84], [88, 67, 72, 71], [77, 79, 86], [76, 69, 65], [67, 66, 87], [67, 87, 68], [67, 65, 76, 76], [67, 65, 76, 76, 70], [87, 65, 73, 84], [80, 85, 83, 72, 70], [80, 79, 80, 70], [83, 65, 72, 70], [76, 65, 72, 70], [77, 79, 86, 83, 66], [77, 79, 86, 83, 87], [67, 77, 80, 83, 66], [67, 77, 80, 83, 87], [83, 84, 79, 83, 66], [83, 84, 79, 83, 87], [76, 79, 68, 83, 66], [76, 79, 68, 83, 87], [83, 67, 65, 83, 66], [83, 67, 65, 83, 87], [82, 69, 84], [82, 69, 84, 70], [76, 69, 83], [76, 68, 83], [73, 78, 84], [73, 78, 84, 79], [73, 82, 69, 84], [82, 79, 76], [82, 79, 82], [82, 67, 76], [82, 67, 82], [83, 72, 76], [83, 72, 82], [83, 65, 82], [65, 65, 77], [65, 65, 68], [88, 76, 65, 84], [69, 83, 67], [76, 79, 79, 80, 78, 90], [76, 79, 79, 80, 90], [76, 79, 79, 80], [74, 67, 88, 90], [73, 78], [79, 85, 84], [74, 77, 80], [74, 77, 80, 70], [72, 76, 84], [67, 77, 67], [78, 79, 84], [78, 69, 71], [77, 85, 76], [73, 77, 85, 76], [68, 73, 86], [73, 68, 73, 86], [67, 76, 67], [83, 84, 67], [67, 76, 73], [83, 84, 73], [67, 76, 68], [83, 84, 68]]
def DNM : List UInt8 := [65, 68, 68, 32, 79, 82, 32, 65, 68, 67, 32, 83, 66, 66, 32, 65, 78, 68, 32, 83, 85, 66, 32, 88, 79, 82, 32, 67, 77, 80, 32, 80, 85, 83, 72, 32, 80, 79, 80, 32, 68, 65, 65, 32, 68, 65, 83, 32, 65, 65, 65, 32, 65, 65, 83, 32, 73, 78, 67, 32, 68, 69, 67, 32, 74, 79, 32, 74, 78, 79, 32, 74, 66, 32, 74, 78, 66, 32, 74, 90, 32, 74, 78, 90, 32, 74, 66, 69, 32, 74, 65, 32, 74, 83, 32, 74, 78, 83, 32, 74, 80, 32, 74, 78, 80, 32, 74, 76, 32, 74, 71, 69, 32, 74, 76, 69, 32, 74, 71, 32, 84, 69, 83, 84, 32, 88, 67, 72, 71, 32, 77, 79, 86, 32, 76, 69, 65, 32, 67, 66, 87, 32, 67, 87, 68, 32, 67, 65, 76, 76, 32, 67, 65, 76, 76, 70, 32, 87, 65, 73, 84, 32, 80, 85, 83, 72, 70, 32, 80, 79, 80, 70, 32, 83, 65, 72, 70, 32, 76, 65, 72, 70, 32, 77, 79, 86, 83, 66, 32, 77, 79, 86, 83, 87, 32, 67, 77, 80, 83, 66, 32, 67, 77, 80, 83, 87, 32, 83, 84, 79, 83, 66, 32, 83, 84, 79, 83, 87, 32, 76, 79, 68, 83, 66, 32, 76, 79, 68, 83, 87, 32, 83, 67, 65, 83, 66, 32, 83, 67, 65, 83, 87, 32, 82, 69, 84, 32, 82, 69, 84, 70, 32, 76, 69, 83, 32, 76, 68, 83, 32, 73, 78, 84, 32, 73, 78, 84, 79, 32, 73, 82, 69, 84, 32, 82, 79, 76, 32, 82, 79, 82, 32, 82, 67, 76, 32, 82, 67, 82, 32, 83, 72, 76, 32, 83, 72, 82, 32, 83, 65, 82, 32, 65, 65, 77, 32, 65, 65, 68, 32, 88, 76, 65, 84, 32, 69, 83, 67, 32, 76, 79, 79, 80, 78, 90, 32, 76, 79, 79, 80, 90, 32, 76, 79, 79, 80, 32, 74, 67, 88, 90, 32, 73, 78, 32, 79, 85, 84, 32, 74, 77, 80, 32, 74, 77, 80, 70, 32, 72, 76, 84, 32, 67, 77, 67, 32, 78, 79, 84, 32, 78, 69, 71, 32, 77, 85, 76, 32, 73, 77, 85, 76, 32, 68, 73, 86, 32, 73, 68, 73, 86, 32, 67, 76, 67, 32, 83, 84, 67, 32, 67, 76, 73, 32, 83, 84, 73, 32, 67, 76, 68, 32, 83, 84, 68]
def RNM : List UInt8 := [65, 68, 68, 32, 79, 82, 32, 65, 68, 67, 32, 83, 66, 66, 32, 65, 78, 68, 32, 83, 85, 66, 32, 88, 79, 82, 32, 67, 77, 80, 32, 80, 85, 83, 72, 32, 80, 79, 80, 32, 68, 65, 65, 32, 68, 65, 83, 32, 65, 65, 65, 32, 65, 65, 83, 32, 73, 78, 67, 32, 68, 69, 67, 32, 74, 79, 32, 74, 78, 79, 32, 74, 66, 32, 74, 78, 66, 32, 74, 90, 32, 74, 78, 90, 32, 74, 66, 69, 32, 74, 65, 32, 74, 83, 32, 74, 78, 83, 32, 74, 80, 32, 74, 78, 80, 32, 74, 76, 32, 74, 71, 69, 32, 74, 76, 69, 32, 74, 71, 32, 84, 69, 83, 84, 32, 88, 67, 72, 71, 32, 77, 79, 86, 32, 76, 69, 65, 32, 67, 66, 87, 32, 67, 87, 68, 32, 67, 65, 76, 76, 32, 67, 65, 76, 76, 70, 32, 87, 65, 73, 84, 32, 80, 85, 83, 72, 70, 32, 80, 79, 80, 70, 32, 83, 65, 72, 70, 32, 76, 65, 72, 70, 32, 77, 79, 86, 83, 66, 32, 77, 79, 86, 83, 87, 32, 67, 77, 80, 83, 66, 32, 67, 77, 80, 83, 87, 32, 83, 84, 79, 83, 66, 32, 83, 84, 79, 83, 87, 32, 76, 79, 68, 83, 66, 32, 76, 79, 68, 83, 87, 32, 83, 67, 65, 83, 66, 32, 83, 67, 65, 83, 87, 32, 82, 69, 84, 32, 82, 69, 84, 70, 32, 76, 69, 83, 32, 76, 68, 83, 32, 73, 78, 84, 32, 73, 78, 84, 79, 32, 73, 82, 69, 84, 32, 82, 79, 76, 32, 82, 79, 82, 32, 82, 67, 76, 32, 82, 67, 82, 32, 83, 72, 76, 32, 83, 72, 82, 32, 83, 65, 82, 32, 65, 65, 77, 32, 65, 65, 68, 32, 88, 76, 65, 84, 32, 69, 83, 67, 32, 76, 79, 79, 80, 78, 90, 32, 76, 79, 79, 80, 90, 32, 76, 79, 79, 80, 32, 74, 67, 88, 90, 32, 73, 78, 32, 79, 85, 84, 32, 74, 77, 80, 32, 74, 77, 80, 70, 32, 72, 76, 84, 32, 67, 77, 67, 32, 78, 79, 84, 32, 78, 69, 71, 32, 77, 85, 76, 32, 73, 77, 85, 76, 32, 68, 73, 86, 32, 73, 68, 73, 86, 32, 67, 76, 67, 32, 83, 84, 67, 32, 67, 76, 73, 32, 83, 84, 73, 32, 67, 76, 68, 32, 83, 84, 68, 32]
theorem RNM_len : RNM.length ≤ 100000 := by
  rw [show RNM.length = 416 by kernel_rfl]; omega
theorem fields_names : strings_Fields DNM = some WW := by
  unfold strings_Fields
  exact if_pos rfl
/-- a text's words -/
def spl : List UInt8 → List UInt8 → List (List UInt8)
  | [], _ => []
  | c :: r, cur => if c.toNat = 32 then cur :: spl r [] else spl r (cur ++ [c])
def fiN (p : List UInt8 → Bool) : List (List UInt8) → Nat → Nat
  | [], _ => 0
  | x :: r, n => if p x then n else fiN p r (n + 1)
theorem fiN_cons (p : List UInt8 → Bool) (x : List UInt8) (r : List (List UInt8)) (n : Nat) : fiN p (x :: r) n = if p x then n else fiN p r (n + 1) := rfl
theorem WW_len : WW.length = 95 := by kernel_rfl
theorem dfind (t : List UInt8) : disp_Find t = some ((fiN (· == t) WW 1 : Nat) : Int) := by
  unfold disp_Find
  show ((strings_Fields DNM).bind _) = _
  rw [fields_names, Option.bind_some]
  have key : loopO (fun x : Int => disp_Find_l6 t WW (WW.length : Int) x) 0 = some (if fiN (· == t) WW 1 = 0 then .inr () else .inl ((fiN (· == t) WW 1 : Nat) : Int)) := by
    refine pre_loop WW (fun xs => (xs.length : Int)) (fun xs => fiN (· == t) WW 1 = fiN (· == t) (WW.drop xs.length) (xs.length + 1)) _ (fun xs v ys e hJ => ?_) (fun hJ => ?_) rfl
    · have hl := len_lt e
      have hL := WW_len
      have hd : WW.drop xs.length = v :: ys := by rw [e]; simp
      rw [hd, fiN_cons] at hJ
      have step : disp_Find_l6 t WW (WW.length : Int) (xs.length : Int) = if v == t then some (.out (.inl ((xs.length + 1 : Nat) : Int))) else some (.next ((xs ++ [v]).length : Int)) := by
        unfold disp_Find_l6
        rw [if_pos (by simpa using hl), idx_mid e, Option.bind_some, len_snoc xs v (by omega)]
        have : ((xs ++ [v]).length : Int) = ((xs.length + 1 : Nat) : Int) := by simp
        rw [this]
      by_cases c : v == t
      · right
        rw [if_pos c] at hJ
        show disp_Find_l6 t WW (WW.length : Int) (xs.length : Int) = _
        rw [step, if_pos c, hJ, if_neg (by omega)]
      · left
        rw [if_neg c] at hJ
        refine ⟨by show disp_Find_l6 t WW (WW.length : Int) (xs.length : Int) = _; rw [step, if_neg c], ?_⟩
        have : WW.drop (xs ++ [v]).length = ys := by rw [e]; simp
        rw [this, hJ]; simp
    · show disp_Find_l6 t WW (WW.length : Int) (WW.length : Int) = _
      have hd : WW.drop WW.length = [] := by simp
      rw [hd] at hJ
      unfold disp_Find_l6
      rw [if_neg (by simp), hJ]; rfl
  rw [key]
  by_cases c : fiN (· == t) WW 1 = 0
  · rw [if_pos c, c]; rfl
  · rw [if_neg c]; rfl
theorem nth_eq {l : List UInt8} {L : List (List UInt8)} (hf : strings_Fields l = some L) (n : Int) : disp_nth l n = some (if n < 0 ∨ n ≥ (L.length : Int) then [63] else (L[n.toNat]?).getD []) := by
  unfold disp_nth
  rw [hf, Option.bind_some]
  by_cases c : n < 0
  · rw [if_pos (by simpa using c), if_pos (.inl c)]
  · rw [if_neg (by simpa using c)]
    by_cases d : n ≥ (L.length : Int)
    · rw [if_pos (by simpa using d), if_pos (.inr d)]
    · rw [if_neg (by simpa using d), if_neg (by omega), idx_eq (by omega) (by omega), List.getElem?_eq_getElem (by omega)]; rfl
theorem of_eq (L : List (List UInt8)) (n : Int) : hansomref17_of L n = some (if n < 0 ∨ n ≥ (L.length : Int) then [63] else (L[n.toNat]?).getD []) := by
  unfold hansomref17_of
  by_cases c : n < 0
  · rw [if_pos (by simpa using c), if_pos (.inl c)]
  · rw [if_neg (by simpa using c)]
    by_cases d : n ≥ (L.length : Int)
    · rw [if_pos (by simpa using d), if_pos (.inr d)]
    · rw [if_neg (by simpa using d), if_neg (by omega), idx_eq (by omega) (by omega), List.getElem?_eq_getElem (by omega)]; rfl
def nameW (n : Int) : List UInt8 := if n < 1 ∨ n > 95 then [63] else (WW[(n - 1).toNat]?).getD []
theorem dname (n : Int) (w : wfI .i64 n) : disp_Name n = some (nameW n) := by
  unfold disp_Name
  show ((disp_nth DNM (IntKind.wrap .i64 (n - 1))).bind _) = _
  rw [nth_eq fields_names, Option.bind_some]
  have hL := WW_len
  obtain ⟨w0, w1⟩ := wfI_i64.1 w
  unfold nameW
  rw [hL]
  by_cases c : n = -9223372036854775808
  · subst c; rfl
  · rw [wrap64 (n := n - 1) (by omega) (by omega)]
    by_cases d : n < 1 ∨ n > 95
    · rw [if_pos d, if_pos (by omega)]
    · rw [if_neg d, if_neg (by omega)]
theorem words_ok : ((List.range 95).all fun k => wordU RNM k == (WW[k]?).getD []) = true := by kernel_rfl
theorem rname (n : Int) : hansomref04_Name n = some (nameW n) := by
  unfold hansomref04_Name nameW
  by_cases c : n < 1
  · rw [if_pos (by simpa using c), if_pos (.inl c)]
  · rw [if_neg (by simpa using c)]
    by_cases d : n > 95
    · rw [if_pos (by simpa using d), if_pos (.inr d)]
    · rw [if_neg (by simpa using d), if_neg (by omega), wrap64 (n := n - 1) (by omega) (by omega)]
      obtain ⟨k, hk⟩ := Int.eq_ofNat_of_zero_le (show 0 ≤ n - 1 by omega)
      rw [hk]
      show ((hansomref04_word RNM (k : Int)).bind _) = _
      rw [word_spec RNM k RNM_len (by omega), Option.bind_some, Int.toNat_natCast]
      have := List.all_eq_true.1 words_ok k (List.mem_range.2 (by omega))
      rw [eq_of_beq this]
theorem fields_r : strings_Fields ([65, 88, 32, 67, 88, 32, 68, 88, 32, 66, 88, 32, 83, 80, 32, 66, 80, 32, 83, 73, 32, 68, 73] : List UInt8) = some [[65, 88], [67, 88], [68, 88], [66, 88], [83, 80], [66, 80], [83, 73], [68, 73]] := by kernel_rfl
theorem fields_b : strings_Fields ([65, 76, 32, 67, 76, 32, 68, 76, 32, 66, 76, 32, 65, 72, 32, 67, 72, 32, 68, 72, 32, 66, 72] : List UInt8) = some [[65, 76], [67, 76], [68, 76], [66, 76], [65, 72], [67, 72], [68, 72], [66, 72]] := by kernel_rfl
theorem fields_s : strings_Fields ([69, 83, 32, 67, 83, 32, 83, 83, 32, 68, 83] : List UInt8) = some [[69, 83], [67, 83], [83, 83], [68, 83]] := by kernel_rfl

end Go.Es.Dso
