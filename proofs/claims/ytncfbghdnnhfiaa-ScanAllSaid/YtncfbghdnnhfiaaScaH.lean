/- What the functions answer, in plain Lean. No condition. -/
import Derived.Test.YtncfbghdnnhfiaaScaP
import Derived.KernelRfl
set_option linter.unusedVariables false
set_option linter.unusedSimpArgs false
set_option maxHeartbeats 4000000
set_option maxRecDepth 100000
namespace Go.Es.Sca
def iterO {α β : Type} (f : α → Option (Lp α β)) : Nat → α → Option β
 | 0, _ => none
 | n + 1, x => match f x with
  | some (.next y) => iterO f n y
  | some (.out b) => some b
  | none => none
theorem loopO_iter {α β : Type} {f : α → Option (Lp α β)} : ∀ {n : Nat} {x : α} {b : β}, iterO f n x = some b → loopO f x = some b
 | 0, x, b, h => by simp [iterO] at h
 | n + 1, x, b, h => by
  rw [loopO_eq]
  simp only [iterO] at h
  split at h
  ·rename_i y hy
   rw [hy]; exact loopO_iter h
  ·rename_i c hc
   rw [hc]; exact h
  ·cases h
def skipU : List UInt8 → List UInt8
 | [] => []
 | c :: r => if c.toNat = 32 then r else skipU r
def takeU : List UInt8 → List UInt8
 | [] => []
 | c :: r => if c.toNat = 32 then [] else c :: takeU r
def wordU (s : List UInt8) : Nat → List UInt8
 | 0 => takeU s
 | n + 1 => wordU (skipU s) n
def fndU (w : List UInt8) : List UInt8 → List UInt8 → Nat → Nat
 | [], _, _ => 0
 | c :: r, cur, n => if c.toNat = 32 then (if cur = w then n else fndU w r [] (n + 1)) else fndU w r (cur ++ [c]) n
def prtU (mark : Nat) : List UInt8 → List UInt8 → Nat → List UInt8
 | [], cur, n => if n = 0 then cur else []
 | c :: r, cur, n => if c.toNat = mark then (if n = 0 then cur else prtU mark r [] (n - 1)) else prtU mark r (cur ++ [c]) n
theorem takeU_len (s : List UInt8) : (takeU s).length ≤ s.length := by
 induction s with
 | nil => simp [takeU]
 | cons c r ih => unfold takeU; split <;> simp; omega
theorem takeU_take (s : List UInt8) : takeU s = s.take (takeU s).length := by
 induction s with
 | nil => simp [takeU]
 | cons c r ih =>
  unfold takeU
  split
  ·simp
  ·simp only [List.length_cons, List.take_succ_cons]; rw [← ih]
theorem skipU_drop (s : List UInt8) : skipU s = s.drop ((takeU s).length + 1) := by
 induction s with
 | nil => simp [skipU]
 | cons c r ih =>
  unfold skipU takeU
  split
  ·simp
  ·simp only [List.length_cons, List.drop_succ_cons]; exact ih
theorem word_in (s : List UInt8) (n k : Int) (a : Nat) (ha : a ≤ s.length) (hs : s.length ≤ 100000) :
  loopO (fun x : Int => hansomref04_word_l19 s n x k) (a : Int) = some ((a + (takeU (s.drop a)).length : Nat) : Int) := by
 refine loop_to (f := fun x : Int => hansomref04_word_l19 s n x k) (fun x => ((x.toNat + (takeU (s.drop x.toNat)).length : Nat) : Int)) (fun x => ∃ b : Nat, x = (b : Int) ∧ b ≤ s.length) (fun x => (s.length - x).toNat) (fun x hx => ?_) ⟨a, rfl, ha⟩
 obtain ⟨b, rfl, hb⟩ := hx
 unfold hansomref04_word_l19
 by_cases hlt : b < s.length
 ·simp only [show (b : Int) < (s.length : Int) from by omega, decide_true, if_true, idx_nat hlt, Option.bind_some, Int.toNat_natCast]
  by_cases hc : s[b].toNat = 32
  ·right
   have : takeU (s.drop b) = [] := by rw [List.drop_eq_getElem_cons hlt]; simp [takeU, hc]
   simp [hc, this]
  ·left
   have hc' : (((s[b].toNat : Nat) : Int) != 32) = true := by simp; omega
   have w : IntKind.wrap .i64 ((b : Int) + 1) = ((b + 1 : Nat) : Int) := by rw [wrap64 (by omega) (by omega)]; omega
   refine ⟨((b + 1 : Nat) : Int), by simp only [hc', if_true, w], ⟨b + 1, rfl, by omega⟩, by omega, ?_⟩
   have : takeU (s.drop b) = s[b] :: takeU (s.drop (b + 1)) := by rw [List.drop_eq_getElem_cons hlt]; simp [takeU, hc]
   rw [this, Int.toNat_natCast, List.length_cons]
   omega
 ·right
  have : b = s.length := by omega
  subst this
  simp [takeU]
theorem word_end (s : List UInt8) (e : Int) (a : Nat) (ha : a ≤ s.length + 1) (hs : s.length ≤ 100000) :
  loopO (fun x : Int => hansomref04_word_l34 s e x) (a : Int) = some ((a + (takeU (s.drop a)).length : Nat) : Int) := by
 refine loop_to (f := fun x : Int => hansomref04_word_l34 s e x) (fun x => ((x.toNat + (takeU (s.drop x.toNat)).length : Nat) : Int)) (fun x => ∃ b : Nat, x = (b : Int) ∧ b ≤ s.length + 1) (fun x => (s.length - x).toNat) (fun x hx => ?_) ⟨a, rfl, ha⟩
 obtain ⟨b, rfl, hb⟩ := hx
 unfold hansomref04_word_l34
 by_cases hlt : b < s.length
 ·simp only [show (b : Int) < (s.length : Int) from by omega, decide_true, if_true, idx_nat hlt, Option.bind_some, Int.toNat_natCast]
  by_cases hc : s[b].toNat = 32
  ·right
   have : takeU (s.drop b) = [] := by rw [List.drop_eq_getElem_cons hlt]; simp [takeU, hc]
   simp [hc, this]
  ·left
   have hc' : (((s[b].toNat : Nat) : Int) != 32) = true := by simp; omega
   have w : IntKind.wrap .i64 ((b : Int) + 1) = ((b + 1 : Nat) : Int) := by rw [wrap64 (by omega) (by omega)]; omega
   refine ⟨((b + 1 : Nat) : Int), by simp only [hc', if_true, w], ⟨b + 1, rfl, by omega⟩, by omega, ?_⟩
   have : takeU (s.drop b) = s[b] :: takeU (s.drop (b + 1)) := by rw [List.drop_eq_getElem_cons hlt]; simp [takeU, hc]
   rw [this, Int.toNat_natCast, List.length_cons]
   omega
 ·right
  have : s.drop b = [] := List.drop_of_length_le (by omega)
  simp only [show ¬ (b : Int) < (s.length : Int) from by omega, decide_false, Bool.false_eq_true, if_false, Int.toNat_natCast, this, takeU]
  simp
def skips : Nat → List UInt8 → List UInt8
 | 0, s => s
 | n + 1, s => skips n (skipU s)
theorem skips_nil : ∀ n, skips n [] = []
 | 0 => rfl
 | n + 1 => skips_nil n
theorem wordU_skips : ∀ (n : Nat) (s : List UInt8), wordU s n = takeU (skips n s)
 | 0, s => rfl
 | n + 1, s => wordU_skips n (skipU s)
theorem word_spec (s : List UInt8) (n : Nat) (hs : s.length ≤ 100000) (hn : n ≤ 100000) : hansomref04_word s (n : Int) = some (wordU s n) := by
 unfold hansomref04_word
 obtain ⟨b, h1, a, h2, h3, h4⟩ := loop_rule (f := fun x : Int × Int => hansomref04_word_l8 s (n : Int) x.1 x.2) (fun x => ∃ a k : Nat, x = ((a : Int), (k : Int)) ∧ a ≤ s.length + 1 ∧ k ≤ n ∧ skips (n - k) (s.drop a) = skips n s) (fun x => (n - x.2).toNat)
  (fun b => ∃ a : Nat, b = (a : Int) ∧ a ≤ s.length + 1 ∧ s.drop a = skips n s) (fun x hx => by
   obtain ⟨a, k, rfl, ha, hk, he⟩ := hx
   simp only
   unfold hansomref04_word_l8
   by_cases h1 : k < n
   ·by_cases h2 : a < s.length
    ·left
     have hl := takeU_len (s.drop a)
     rw [List.length_drop] at hl
     simp only [show (k : Int) < (n : Int) from by omega, show (a : Int) < (s.length : Int) from by omega, decide_true, if_true, word_in s n k a (by omega) hs, Option.bind_some]
     refine ⟨(((a + (takeU (s.drop a)).length + 1 : Nat) : Int), ((k + 1 : Nat) : Int)), ?_, ⟨a + (takeU (s.drop a)).length + 1, k + 1, rfl, by omega, by omega, ?_⟩, by simp only; omega⟩
     ·rw [wrap64 (by omega) (by omega), wrap64 (by omega) (by omega)]; rfl
     ·rw [← he, show n - k = (n - (k + 1)) + 1 by omega]
      simp only [skips]
      rw [skipU_drop, List.drop_drop]
      rfl
    ·right
     simp only [show (k : Int) < (n : Int) from by omega, show ¬ (a : Int) < (s.length : Int) from by omega, decide_true, decide_false, if_true, Bool.false_eq_true, if_false]
     refine ⟨_, rfl, a, rfl, ha, ?_⟩
     have hd : s.drop a = [] := List.drop_of_length_le (by omega)
     rw [hd, skips_nil] at he
     rw [hd, ← he]
   ·right
    have : k = n := by omega
    subst this
    simp only [show ¬ (k : Int) < (k : Int) from by omega, decide_false, Bool.false_eq_true, if_false]
    refine ⟨_, rfl, a, rfl, ha, ?_⟩
    rw [Nat.sub_self] at he
    exact he) (x := (0, 0)) ⟨0, 0, rfl, by omega, by omega, by simp⟩
 subst h2
 rw [h1, Option.bind_some, word_end s _ a h3 hs, Option.bind_some, wordU_skips, ← h4]
 by_cases hlt : a < s.length
 ·have hl := takeU_len (s.drop a)
  rw [List.length_drop] at hl
  simp only [show ¬ (a : Int) ≥ (s.length : Int) from by omega, decide_false, Bool.false_eq_true, if_false]
  rw [cutL_eq (by omega) (by omega) (by omega), Option.bind_some, Int.toNat_natCast, Int.toNat_natCast, Nat.add_sub_cancel_left, ← takeU_take]
 ·have : s.drop a = [] := List.drop_of_length_le (by omega)
  simp only [show (a : Int) ≥ (s.length : Int) from by omega, decide_true, if_true, this, takeU]
theorem cut_snoc (s : List UInt8) (a b : Nat) (h1 : a ≤ b) (h2 : b < s.length) : (s.drop a).take (b - a) ++ [s[b]] = (s.drop a).take (b + 1 - a) := by
 rw [show b + 1 - a = (b - a) + 1 by omega, List.take_succ_eq_append_getElem (by rw [List.length_drop]; omega)]
 simp [show a + (b - a) = b by omega]
theorem find_spec (s w : List UInt8) (hs : s.length ≤ 100000) : hansomref04_find s w = some ((fndU w s [] 1 : Nat) : Int) := by
 unfold hansomref04_find
 have h := loop_to (f := fun x : Int × Int × Int => hansomref04_find_l8 s w x.1 x.2.1 x.2.2) (fun x => if fndU w (s.drop x.2.2.toNat) ((s.drop x.2.1.toNat).take (x.2.2.toNat - x.2.1.toNat)) x.1.toNat = 0 then (.inr () : Int ⊕ Unit) else .inl ((fndU w (s.drop x.2.2.toNat) ((s.drop x.2.1.toNat).take (x.2.2.toNat - x.2.1.toNat)) x.1.toNat : Nat) : Int))
  (fun x => ∃ n a b : Nat, x = ((n : Int), (a : Int), (b : Int)) ∧ 1 ≤ n ∧ n ≤ b + 1 ∧ a ≤ b ∧ b ≤ s.length) (fun x => (s.length - x.2.2).toNat) (fun x hx => by
   obtain ⟨n, a, b, rfl, hn, hn2, ha, hb⟩ := hx
   simp only [Int.toNat_natCast]
   unfold hansomref04_find_l8
   have w1 : IntKind.wrap .i64 ((b : Int) + 1) = ((b + 1 : Nat) : Int) := by rw [wrap64 (by omega) (by omega)]; omega
   have w2 : IntKind.wrap .i64 ((n : Int) + 1) = ((n + 1 : Nat) : Int) := by rw [wrap64 (by omega) (by omega)]; omega
   by_cases hlt : b < s.length
   ·have hd : s.drop b = s[b] :: s.drop (b + 1) := List.drop_eq_getElem_cons hlt
    simp only [show (b : Int) < (s.length : Int) from by omega, decide_true, if_true, idx_nat hlt, Option.bind_some, w1, w2]
    by_cases hc : s[b].toNat = 32
    ·have hc' : (((s[b].toNat : Nat) : Int) != 32) = false := by simp [hc]
     simp only [hc', Bool.false_eq_true, if_false]
     rw [cutL_eq (by omega) (by omega) (by omega), Option.bind_some, Int.toNat_natCast, Int.toNat_natCast]
     by_cases hw : (s.drop a).take (b - a) = w
     ·right
      simp only [hw, beq_self_eq_true, if_true, hd, fndU, hc]
      rw [if_neg (by omega)]
     ·left
      have hw' : ((s.drop a).take (b - a) == w) = false := by simpa using hw
      simp only [hw', Bool.false_eq_true, if_false]
      refine ⟨_, rfl, ⟨n + 1, b + 1, b + 1, rfl, by omega, by omega, by omega, by omega⟩, by simp only; omega, ?_⟩
      simp only [Int.toNat_natCast, hd, fndU, hc, if_true, hw, if_false, Nat.sub_self, List.take_zero]
    ·left
     have hc' : (((s[b].toNat : Nat) : Int) != 32) = true := by simp; omega
     simp only [hc', if_true]
     refine ⟨_, rfl, ⟨n, a, b + 1, rfl, hn, by omega, by omega, by omega⟩, by simp only; omega, ?_⟩
     simp only [Int.toNat_natCast, hd, fndU, hc, if_false]
     rw [cut_snoc s a b ha hlt]
   ·right
    have : b = s.length := by omega
    subst this
    simp [fndU]) (x := (1, 0, 0)) ⟨1, 0, 0, rfl, by omega, by omega, by omega, by omega⟩
 rw [h]
 simp only [Option.bind_some]
 show (match (if fndU w s [] 1 = 0 then (.inr () : Int ⊕ Unit) else .inl ((fndU w s [] 1 : Nat) : Int)) with | .inl e => some e | .inr _ => some 0) = _
 split
 ·rename_i h0; split at h0
  ·cases h0
  ·cases h0; rfl
 ·rename_i h0; split at h0
  ·rename_i hz; rw [hz]; rfl
  ·cases h0
theorem part_spec (s : List UInt8) (mark n : Nat) (hs : s.length ≤ 100000) (hn : n ≤ 100000) : hansomref04_part s (mark : Int) (n : Int) = some (prtU mark s [] n) := by
 unfold hansomref04_part
 have h := loop_rule (f := fun x : Int × Int × Int => hansomref04_part_l8 s (mark : Int) x.1 x.2.1 x.2.2)
  (fun x => (∃ n' a b : Nat, x = ((n' : Int), (a : Int), (b : Int)) ∧ n' ≤ n ∧ a ≤ b ∧ b ≤ s.length ∧ prtU mark (s.drop b) ((s.drop a).take (b - a)) n' = prtU mark s [] n) ∨ ((s.length : Int) < x.2.2 ∧ prtU mark s [] n = [])) (fun x => (s.length + 1 - x.2.2).toNat)
  (fun r => (match r with | .inl e => e | .inr _ => ([] : List UInt8)) = prtU mark s [] n) (fun x hx => by
   rcases hx with ⟨n', a, b, rfl, hn', ha, hb, he⟩ | ⟨hx, he⟩
   ·simp only
    unfold hansomref04_part_l8
    have w1 : IntKind.wrap .i64 ((b : Int) + 1) = ((b + 1 : Nat) : Int) := by rw [wrap64 (by omega) (by omega)]; omega
    simp only [show (b : Int) ≤ (s.length : Int) from by omega, decide_true, if_true, w1]
    by_cases hlt : b < s.length
    ·have hd : s.drop b = s[b] :: s.drop (b + 1) := List.drop_eq_getElem_cons hlt
     rw [hd] at he
     simp only [show (b : Int) < (s.length : Int) from by omega, decide_true, if_true, idx_nat hlt, Option.bind_some]
     by_cases hc : s[b].toNat = mark
     ·have hc' : (((s[b].toNat : Nat) : Int) != (mark : Int)) = false := by simp [hc]
      simp only [hc', Bool.false_eq_true, if_false]
      simp only [prtU, hc, if_true] at he
      by_cases hz : n' = 0
      ·right
       subst hz
       simp only [if_true] at he
       simp only [Int.natCast_zero, beq_self_eq_true, if_true]
       rw [cutL_eq (by omega) (by omega) (by omega), Option.bind_some, Int.toNat_natCast, Int.toNat_natCast, he]
       exact ⟨_, rfl, rfl⟩
      ·left
       rw [if_neg hz] at he
       have hz' : ((n' : Int) == 0) = false := by simp; omega
       have w3 : IntKind.wrap .i64 ((n' : Int) - 1) = ((n' - 1 : Nat) : Int) := by rw [wrap64 (by omega) (by omega)]; omega
       simp only [hz', Bool.false_eq_true, if_false, w3]
       refine ⟨_, rfl, .inl ⟨n' - 1, b + 1, b + 1, rfl, by omega, by omega, by omega, ?_⟩, by simp only; omega⟩
       rw [Nat.sub_self, List.take_zero]; exact he
     ·left
      have hc' : (((s[b].toNat : Nat) : Int) != (mark : Int)) = true := by simp; omega
      simp only [hc', if_true]
      simp only [prtU, hc, if_false] at he
      refine ⟨_, rfl, .inl ⟨n', a, b + 1, rfl, by omega, by omega, by omega, ?_⟩, by simp only; omega⟩
      rw [← cut_snoc s a b ha hlt]; exact he
    ·have hbl : b = s.length := by omega
     subst hbl
     rw [List.drop_length] at he
     simp only [prtU] at he
     simp only [show ¬ (s.length : Int) < (s.length : Int) from by omega, decide_false, Bool.false_eq_true, if_false]
     by_cases hz : n' = 0
     ·right
      subst hz
      simp only [if_true] at he
      simp only [Int.natCast_zero, beq_self_eq_true, if_true]
      rw [cutL_eq (by omega) (by omega) (by omega), Option.bind_some, Int.toNat_natCast, Int.toNat_natCast, he]
      exact ⟨_, rfl, rfl⟩
     ·left
      rw [if_neg hz] at he
      have hz' : ((n' : Int) == 0) = false := by simp; omega
      simp only [hz', Bool.false_eq_true, if_false]
      exact ⟨_, rfl, .inr ⟨by simp only; omega, he.symm⟩, by simp only; omega⟩
   ·right
    unfold hansomref04_part_l8
    simp only [show ¬ x.2.2 ≤ (s.length : Int) from by omega, decide_false, Bool.false_eq_true, if_false]
    exact ⟨_, rfl, he.symm⟩) (x := ((n : Int), 0, 0)) (.inl ⟨n, 0, 0, rfl, by omega, by omega, by omega, by simp⟩)
 obtain ⟨r, h1, h2⟩ := h
 rw [h1, Option.bind_some, ← h2]
 cases r <;> rfl
def TBL : List UInt8 := [65, 68, 68, 58, 69, 98, 58, 71, 98, 32, 65, 68, 68, 58, 69, 118, 58, 71, 118, 32, 65, 68, 68, 58, 71, 98, 58, 69, 98, 32, 65, 68, 68, 58, 71, 118, 58, 69, 118, 32, 65, 68, 68, 58, 65, 76, 58, 73, 98, 32, 65, 68, 68, 58, 65, 88, 58, 73, 118, 32, 80, 85, 83, 72, 58, 90, 115, 32, 80, 79, 80, 58, 90, 115, 32, 79, 82, 58, 69, 98, 58, 71, 98, 32, 79, 82, 58, 69, 118, 58, 71, 118, 32, 79, 82, 58, 71, 98, 58, 69, 98, 32, 79, 82, 58, 71, 118, 58, 69, 118, 32, 79, 82, 58, 65, 76, 58, 73, 98, 32, 79, 82, 58, 65, 88, 58, 73, 118, 32, 80, 85, 83, 72, 58, 90, 115, 32, 45, 32, 65, 68, 67, 58, 69, 98, 58, 71, 98, 32, 65, 68, 67, 58, 69, 118, 58, 71, 118, 32, 65, 68, 67, 58, 71, 98, 58, 69, 98, 32, 65, 68, 67, 58, 71, 118, 58, 69, 118, 32, 65, 68, 67, 58, 65, 76, 58, 73, 98, 32, 65, 68, 67, 58, 65, 88, 58, 73, 118, 32, 80, 85, 83, 72, 58, 90, 115, 32, 80, 79, 80, 58, 90, 115, 32, 83, 66, 66, 58, 69, 98, 58, 71, 98, 32, 83, 66, 66, 58, 69, 118, 58, 71, 118, 32, 83, 66, 66, 58, 71, 98, 58, 69, 98, 32, 83, 66, 66, 58, 71, 118, 58, 69, 118, 32, 83, 66, 66, 58, 65, 76, 58, 73, 98, 32, 83, 66, 66, 58, 65, 88, 58, 73, 118, 32, 80, 85, 83, 72, 58, 90, 115, 32, 80, 79, 80, 58, 90, 115, 32, 65, 78, 68, 58, 69, 98, 58, 71, 98, 32, 65, 78, 68, 58, 69, 118, 58, 71, 118, 32, 65, 78, 68, 58, 71, 98, 58, 69, 98, 32, 65, 78, 68, 58, 71, 118, 58, 69, 118, 32, 65, 78, 68, 58, 65, 76, 58, 73, 98, 32, 65, 78, 68, 58, 65, 88, 58, 73, 118, 32, 45, 32, 68, 65, 65, 32, 83, 85, 66, 58, 69, 98, 58, 71, 98, 32, 83, 85, 66, 58, 69, 118, 58, 71, 118, 32, 83, 85, 66, 58, 71, 98, 58, 69, 98, 32, 83, 85, 66, 58, 71, 118, 58, 69, 118, 32, 83, 85, 66, 58, 65, 76, 58, 73, 98, 32, 83, 85, 66, 58, 65, 88, 58, 73, 118, 32, 45, 32, 68, 65, 83, 32, 88, 79, 82, 58, 69, 98, 58, 71, 98, 32, 88, 79, 82, 58, 69, 118, 58, 71, 118, 32, 88, 79, 82, 58, 71, 98, 58, 69, 98, 32, 88, 79, 82, 58, 71, 118, 58, 69, 118, 32, 88, 79, 82, 58, 65, 76, 58, 73, 98, 32, 88, 79, 82, 58, 65, 88, 58, 73, 118, 32, 45, 32, 65, 65, 65, 32, 67, 77, 80, 58, 69, 98, 58, 71, 98, 32, 67, 77, 80, 58, 69, 118, 58, 71, 118, 32, 67, 77, 80, 58, 71, 98, 58, 69, 98, 32, 67, 77, 80, 58, 71, 118, 58, 69, 118, 32, 67, 77, 80, 58, 65, 76, 58, 73, 98, 32, 67, 77, 80, 58, 65, 88, 58, 73, 118, 32, 45, 32, 65, 65, 83, 32, 73, 78, 67, 58, 90, 118, 32, 73, 78, 67, 58, 90, 118, 32, 73, 78, 67, 58, 90, 118, 32, 73, 78, 67, 58, 90, 118, 32, 73, 78, 67, 58, 90, 118, 32, 73, 78, 67, 58, 90, 118, 32, 73, 78, 67, 58, 90, 118, 32, 73, 78, 67, 58, 90, 118, 32, 68, 69, 67, 58, 90, 118, 32, 68, 69, 67, 58, 90, 118, 32, 68, 69, 67, 58, 90, 118, 32, 68, 69, 67, 58, 90, 118, 32, 68, 69, 67, 58, 90, 118, 32, 68, 69, 67, 58, 90, 118, 32, 68, 69, 67, 58, 90, 118, 32, 68, 69, 67, 58, 90, 118, 32, 80, 85, 83, 72, 58, 90, 118, 32, 80, 85, 83, 72, 58, 90, 118, 32, 80, 85, 83, 72, 58, 90, 118, 32, 80, 85, 83, 72, 58, 90, 118, 32, 80, 85, 83, 72, 58, 90, 118, 32, 80, 85, 83, 72, 58, 90, 118, 32, 80, 85, 83, 72, 58, 90, 118, 32, 80, 85, 83, 72, 58, 90, 118, 32, 80, 79, 80, 58, 90, 118, 32, 80, 79, 80, 58, 90, 118, 32, 80, 79, 80, 58, 90, 118, 32, 80, 79, 80, 58, 90, 118, 32, 80, 79, 80, 58, 90, 118, 32, 80, 79, 80, 58, 90, 118, 32, 80, 79, 80, 58, 90, 118, 32, 80, 79, 80, 58, 90, 118, 32, 45, 32, 45, 32, 45, 32, 45, 32, 45, 32, 45, 32, 45, 32, 45, 32, 45, 32, 45, 32, 45, 32, 45, 32, 45, 32, 45, 32, 45, 32, 45, 32, 74, 79, 58, 74, 98, 32, 74, 78, 79, 58, 74, 98, 32, 74, 66, 58, 74, 98, 32, 74, 78, 66, 58, 74, 98, 32, 74, 90, 58, 74, 98, 32, 74, 78, 90, 58, 74, 98, 32, 74, 66, 69, 58, 74, 98, 32, 74, 65, 58, 74, 98, 32, 74, 83, 58, 74, 98, 32, 74, 78, 83, 58, 74, 98, 32, 74, 80, 58, 74, 98, 32, 74, 78, 80, 58, 74, 98, 32, 74, 76, 58, 74, 98, 32, 74, 71, 69, 58, 74, 98, 32, 74, 76, 69, 58, 74, 98, 32, 74, 71, 58, 74, 98, 32, 47, 65, 68, 68, 58, 69, 98, 58, 73, 98, 47, 79, 82, 58, 69, 98, 58, 73, 98, 47, 65, 68, 67, 58, 69, 98, 58, 73, 98, 47, 83, 66, 66, 58, 69, 98, 58, 73, 98, 47, 65, 78, 68, 58, 69, 98, 58, 73, 98, 47, 83, 85, 66, 58, 69, 98, 58, 73, 98, 47, 88, 79, 82, 58, 69, 98, 58, 73, 98, 47, 67, 77, 80, 58, 69, 98, 58, 73, 98, 32, 47, 65, 68, 68, 58, 69, 118, 58, 73, 118, 47, 79, 82, 58, 69, 118, 58, 73, 118, 47, 65, 68, 67, 58, 69, 118, 58, 73, 118, 47, 83, 66, 66, 58, 69, 118, 58, 73, 118, 47, 65, 78, 68, 58, 69, 118, 58, 73, 118, 47, 83, 85, 66, 58, 69, 118, 58, 73, 118, 47, 88, 79, 82, 58, 69, 118, 58, 73, 118, 47, 67, 77, 80, 58, 69, 118, 58, 73, 118, 32, 45, 32, 47, 65, 68, 68, 58, 69, 118, 58, 73, 115, 47, 45, 47, 65, 68, 67, 58, 69, 118, 58, 73, 115, 47, 83, 66, 66, 58, 69, 118, 58, 73, 115, 47, 45, 47, 83, 85, 66, 58, 69, 118, 58, 73, 115, 47, 45, 47, 67, 77, 80, 58, 69, 118, 58, 73, 115, 32, 84, 69, 83, 84, 58, 69, 98, 58, 71, 98, 32, 84, 69, 83, 84, 58, 69, 118, 58, 71, 118, 32, 88, 67, 72, 71, 58, 69, 98, 58, 71, 98, 32, 88, 67, 72, 71, 58, 69, 118, 58, 71, 118, 32, 77, 79, 86, 58, 69, 98, 58, 71, 98, 32, 77, 79, 86, 58, 69, 118, 58, 71, 118, 32, 77, 79, 86, 58, 71, 98, 58, 69, 98, 32, 77, 79, 86, 58, 71, 118, 58, 69, 118, 32, 47, 77, 79, 86, 58, 69, 118, 58, 83, 119, 47, 77, 79, 86, 58, 69, 118, 58, 83, 119, 47, 77, 79, 86, 58, 69, 118, 58, 83, 119, 47, 77, 79, 86, 58, 69, 118, 58, 83, 119, 47, 45, 47, 45, 47, 45, 47, 45, 32, 76, 69, 65, 58, 71, 118, 58, 77, 32, 47, 77, 79, 86, 58, 83, 119, 58, 69, 118, 47, 45, 47, 77, 79, 86, 58, 83, 119, 58, 69, 118, 47, 77, 79, 86, 58, 83, 119, 58, 69, 118, 47, 45, 47, 45, 47, 45, 47, 45, 32, 47, 80, 79, 80, 58, 69, 118, 47, 45, 47, 45, 47, 45, 47, 45, 47, 45, 47, 45, 47, 45, 32, 88, 67, 72, 71, 58, 65, 88, 58, 90, 118, 32, 88, 67, 72, 71, 58, 65, 88, 58, 90, 118, 32, 88, 67, 72, 71, 58, 65, 88, 58, 90, 118, 32, 88, 67, 72, 71, 58, 65, 88, 58, 90, 118, 32, 88, 67, 72, 71, 58, 65, 88, 58, 90, 118, 32, 88, 67, 72, 71, 58, 65, 88, 58, 90, 118, 32, 88, 67, 72, 71, 58, 65, 88, 58, 90, 118, 32, 88, 67, 72, 71, 58, 65, 88, 58, 90, 118, 32, 67, 66, 87, 32, 67, 87, 68, 32, 67, 65, 76, 76, 70, 58, 65, 112, 32, 87, 65, 73, 84, 32, 80, 85, 83, 72, 70, 32, 80, 79, 80, 70, 32, 83, 65, 72, 70, 32, 76, 65, 72, 70, 32, 77, 79, 86, 58, 65, 76, 58, 79, 98, 32, 77, 79, 86, 58, 65, 88, 58, 79, 118, 32, 77, 79, 86, 58, 79, 98, 58, 65, 76, 32, 77, 79, 86, 58, 79, 118, 58, 65, 88, 32, 77, 79, 86, 83, 66, 32, 77, 79, 86, 83, 87, 32, 67, 77, 80, 83, 66, 32, 67, 77, 80, 83, 87, 32, 84, 69, 83, 84, 58, 65, 76, 58, 73, 98, 32, 84, 69, 83, 84, 58, 65, 88, 58, 73, 118, 32, 83, 84, 79, 83, 66, 32, 83, 84, 79, 83, 87, 32, 76, 79, 68, 83, 66, 32, 76, 79, 68, 83, 87, 32, 83, 67, 65, 83, 66, 32, 83, 67, 65, 83, 87, 32, 77, 79, 86, 58, 90, 98, 58, 73, 98, 32, 77, 79, 86, 58, 90, 98, 58, 73, 98, 32, 77, 79, 86, 58, 90, 98, 58, 73, 98, 32, 77, 79, 86, 58, 90, 98, 58, 73, 98, 32, 77, 79, 86, 58, 90, 98, 58, 73, 98, 32, 77, 79, 86, 58, 90, 98, 58, 73, 98, 32, 77, 79, 86, 58, 90, 98, 58, 73, 98, 32, 77, 79, 86, 58, 90, 98, 58, 73, 98, 32, 77, 79, 86, 58, 90, 118, 58, 73, 118, 32, 77, 79, 86, 58, 90, 118, 58, 73, 118, 32, 77, 79, 86, 58, 90, 118, 58, 73, 118, 32, 77, 79, 86, 58, 90, 118, 58, 73, 118, 32, 77, 79, 86, 58, 90, 118, 58, 73, 118, 32, 77, 79, 86, 58, 90, 118, 58, 73, 118, 32, 77, 79, 86, 58, 90, 118, 58, 73, 118, 32, 77, 79, 86, 58, 90, 118, 58, 73, 118, 32, 45, 32, 45, 32, 82, 69, 84, 58, 73, 118, 32, 82, 69, 84, 32, 76, 69, 83, 58, 71, 118, 58, 77, 112, 32, 76, 68, 83, 58, 71, 118, 58, 77, 112, 32, 47, 77, 79, 86, 58, 69, 98, 58, 73, 98, 47, 45, 47, 45, 47, 45, 47, 45, 47, 45, 47, 45, 47, 45, 32, 47, 77, 79, 86, 58, 69, 118, 58, 73, 118, 47, 45, 47, 45, 47, 45, 47, 45, 47, 45, 47, 45, 47, 45, 32, 45, 32, 45, 32, 82, 69, 84, 70, 58, 73, 118, 32, 82, 69, 84, 70, 32, 73, 78, 84, 58, 84, 104, 114, 101, 101, 32, 73, 78, 84, 58, 73, 98, 32, 73, 78, 84, 79, 32, 73, 82, 69, 84, 32, 47, 82, 79, 76, 58, 69, 98, 58, 79, 110, 101, 47, 82, 79, 82, 58, 69, 98, 58, 79, 110, 101, 47, 82, 67, 76, 58, 69, 98, 58, 79, 110, 101, 47, 82, 67, 82, 58, 69, 98, 58, 79, 110, 101, 47, 83, 72, 76, 58, 69, 98, 58, 79, 110, 101, 47, 83, 72, 82, 58, 69, 98, 58, 79, 110, 101, 47, 45, 47, 83, 65, 82, 58, 69, 98, 58, 79, 110, 101, 32, 47, 82, 79, 76, 58, 69, 118, 58, 79, 110, 101, 47, 82, 79, 82, 58, 69, 118, 58, 79, 110, 101, 47, 82, 67, 76, 58, 69, 118, 58, 79, 110, 101, 47, 82, 67, 82, 58, 69, 118, 58, 79, 110, 101, 47, 83, 72, 76, 58, 69, 118, 58, 79, 110, 101, 47, 83, 72, 82, 58, 69, 118, 58, 79, 110, 101, 47, 45, 47, 83, 65, 82, 58, 69, 118, 58, 79, 110, 101, 32, 47, 82, 79, 76, 58, 69, 98, 58, 67, 76, 47, 82, 79, 82, 58, 69, 98, 58, 67, 76, 47, 82, 67, 76, 58, 69, 98, 58, 67, 76, 47, 82, 67, 82, 58, 69, 98, 58, 67, 76, 47, 83, 72, 76, 58, 69, 98, 58, 67, 76, 47, 83, 72, 82, 58, 69, 98, 58, 67, 76, 47, 45, 47, 83, 65, 82, 58, 69, 98, 58, 67, 76, 32, 47, 82, 79, 76, 58, 69, 118, 58, 67, 76, 47, 82, 79, 82, 58, 69, 118, 58, 67, 76, 47, 82, 67, 76, 58, 69, 118, 58, 67, 76, 47, 82, 67, 82, 58, 69, 118, 58, 67, 76, 47, 83, 72, 76, 58, 69, 118, 58, 67, 76, 47, 83, 72, 82, 58, 69, 118, 58, 67, 76, 47, 45, 47, 83, 65, 82, 58, 69, 118, 58, 67, 76, 32, 65, 65, 77, 58, 73, 98, 32, 65, 65, 68, 58, 73, 98, 32, 45, 32, 88, 76, 65, 84, 32, 69, 83, 67, 58, 69, 118, 32, 69, 83, 67, 58, 69, 118, 32, 69, 83, 67, 58, 69, 118, 32, 69, 83, 67, 58, 69, 118, 32, 69, 83, 67, 58, 69, 118, 32, 69, 83, 67, 58, 69, 118, 32, 69, 83, 67, 58, 69, 118, 32, 69, 83, 67, 58, 69, 118, 32, 76, 79, 79, 80, 78, 90, 58, 74, 98, 32, 76, 79, 79, 80, 90, 58, 74, 98, 32, 76, 79, 79, 80, 58, 74, 98, 32, 74, 67, 88, 90, 58, 74, 98, 32, 73, 78, 58, 65, 76, 58, 73, 98, 32, 73, 78, 58, 65, 88, 58, 73, 98, 32, 79, 85, 84, 58, 73, 98, 58, 65, 76, 32, 79, 85, 84, 58, 73, 98, 58, 65, 88, 32, 67, 65, 76, 76, 58, 74, 118, 32, 74, 77, 80, 58, 74, 118, 32, 74, 77, 80, 70, 58, 65, 112, 32, 74, 77, 80, 58, 74, 98, 32, 73, 78, 58, 65, 76, 58, 68, 88, 32, 73, 78, 58, 65, 88, 58, 68, 88, 32, 79, 85, 84, 58, 68, 88, 58, 65, 76, 32, 79, 85, 84, 58, 68, 88, 58, 65, 88, 32, 45, 32, 45, 32, 45, 32, 45, 32, 72, 76, 84, 32, 67, 77, 67, 32, 47, 84, 69, 83, 84, 58, 69, 98, 58, 73, 98, 47, 45, 47, 78, 79, 84, 58, 69, 98, 47, 78, 69, 71, 58, 69, 98, 47, 77, 85, 76, 58, 69, 98, 47, 73, 77, 85, 76, 58, 69, 98, 47, 68, 73, 86, 58, 69, 98, 47, 73, 68, 73, 86, 58, 69, 98, 32, 47, 84, 69, 83, 84, 58, 69, 118, 58, 73, 118, 47, 45, 47, 78, 79, 84, 58, 69, 118, 47, 78, 69, 71, 58, 69, 118, 47, 77, 85, 76, 58, 69, 118, 47, 73, 77, 85, 76, 58, 69, 118, 47, 68, 73, 86, 58, 69, 118, 47, 73, 68, 73, 86, 58, 69, 118, 32, 67, 76, 67, 32, 83, 84, 67, 32, 67, 76, 73, 32, 83, 84, 73, 32, 67, 76, 68, 32, 83, 84, 68, 32, 47, 73, 78, 67, 58, 69, 98, 47, 68, 69, 67, 58, 69, 98, 47, 45, 47, 45, 47, 45, 47, 45, 47, 45, 47, 45, 32, 47, 73, 78, 67, 58, 69, 118, 47, 68, 69, 67, 58, 69, 118, 47, 67, 65, 76, 76, 58, 69, 118, 47, 67, 65, 76, 76, 70, 58, 77, 112, 47, 74, 77, 80, 58, 69, 118, 47, 74, 77, 80, 70, 58, 77, 112, 47, 80, 85, 83, 72, 58, 69, 118, 47, 45, 32]
def NAMES : List UInt8 := [65, 68, 68, 32, 79, 82, 32, 65, 68, 67, 32, 83, 66, 66, 32, 65, 78, 68, 32, 83, 85, 66, 32, 88, 79, 82, 32, 67, 77, 80, 32, 80, 85, 83, 72, 32, 80, 79, 80, 32, 68, 65, 65, 32, 68, 65, 83, 32, 65, 65, 65, 32, 65, 65, 83, 32, 73, 78, 67, 32, 68, 69, 67, 32, 74, 79, 32, 74, 78, 79, 32, 74, 66, 32, 74, 78, 66, 32, 74, 90, 32, 74, 78, 90, 32, 74, 66, 69, 32, 74, 65, 32, 74, 83, 32, 74, 78, 83, 32, 74, 80, 32, 74, 78, 80, 32, 74, 76, 32, 74, 71, 69, 32, 74, 76, 69, 32, 74, 71, 32, 84, 69, 83, 84, 32, 88, 67, 72, 71, 32, 77, 79, 86, 32, 76, 69, 65, 32, 67, 66, 87, 32, 67, 87, 68, 32, 67, 65, 76, 76, 32, 67, 65, 76, 76, 70, 32, 87, 65, 73, 84, 32, 80, 85, 83, 72, 70, 32, 80, 79, 80, 70, 32, 83, 65, 72, 70, 32, 76, 65, 72, 70, 32, 77, 79, 86, 83, 66, 32, 77, 79, 86, 83, 87, 32, 67, 77, 80, 83, 66, 32, 67, 77, 80, 83, 87, 32, 83, 84, 79, 83, 66, 32, 83, 84, 79, 83, 87, 32, 76, 79, 68, 83, 66, 32, 76, 79, 68, 83, 87, 32, 83, 67, 65, 83, 66, 32, 83, 67, 65, 83, 87, 32, 82, 69, 84, 32, 82, 69, 84, 70, 32, 76, 69, 83, 32, 76, 68, 83, 32, 73, 78, 84, 32, 73, 78, 84, 79, 32, 73, 82, 69, 84, 32, 82, 79, 76, 32, 82, 79, 82, 32, 82, 67, 76, 32, 82, 67, 82, 32, 83, 72, 76, 32, 83, 72, 82, 32, 83, 65, 82, 32, 65, 65, 77, 32, 65, 65, 68, 32, 88, 76, 65, 84, 32, 69, 83, 67, 32, 76, 79, 79, 80, 78, 90, 32, 76, 79, 79, 80, 90, 32, 76, 79, 79, 80, 32, 74, 67, 88, 90, 32, 73, 78, 32, 79, 85, 84, 32, 74, 77, 80, 32, 74, 77, 80, 70, 32, 72, 76, 84, 32, 67, 77, 67, 32, 78, 79, 84, 32, 78, 69, 71, 32, 77, 85, 76, 32, 73, 77, 85, 76, 32, 68, 73, 86, 32, 73, 68, 73, 86, 32, 67, 76, 67, 32, 83, 84, 67, 32, 67, 76, 73, 32, 83, 84, 73, 32, 67, 76, 68, 32, 83, 84, 68, 32]
def KINDS : List UInt8 := [69, 98, 32, 69, 118, 32, 71, 98, 32, 71, 118, 32, 83, 119, 32, 73, 98, 32, 73, 118, 32, 73, 115, 32, 74, 98, 32, 74, 118, 32, 65, 112, 32, 79, 98, 32, 79, 118, 32, 65, 76, 32, 67, 76, 32, 65, 88, 32, 68, 88, 32, 79, 110, 101, 32, 77, 112, 32, 77, 32, 90, 98, 32, 90, 118, 32, 90, 115, 32, 84, 104, 114, 101, 101, 32]
def LIT : List (List (Nat × Nat × Nat)) := [[(1, 1, 3)],
 [(1, 2, 4)],
 [(1, 3, 1)],
 [(1, 4, 2)],
 [(1, 14, 6)],
 [(1, 16, 7)],
 [(9, 23, 0)],
 [(10, 23, 0)],
 [(2, 1, 3)],
 [(2, 2, 4)],
 [(2, 3, 1)],
 [(2, 4, 2)],
 [(2, 14, 6)],
 [(2, 16, 7)],
 [(9, 23, 0)],
 [(0, 0, 0)],
 [(3, 1, 3)],
 [(3, 2, 4)],
 [(3, 3, 1)],
 [(3, 4, 2)],
 [(3, 14, 6)],
 [(3, 16, 7)],
 [(9, 23, 0)],
 [(10, 23, 0)],
 [(4, 1, 3)],
 [(4, 2, 4)],
 [(4, 3, 1)],
 [(4, 4, 2)],
 [(4, 14, 6)],
 [(4, 16, 7)],
 [(9, 23, 0)],
 [(10, 23, 0)],
 [(5, 1, 3)],
 [(5, 2, 4)],
 [(5, 3, 1)],
 [(5, 4, 2)],
 [(5, 14, 6)],
 [(5, 16, 7)],
 [(0, 0, 0)],
 [(11, 0, 0)],
 [(6, 1, 3)],
 [(6, 2, 4)],
 [(6, 3, 1)],
 [(6, 4, 2)],
 [(6, 14, 6)],
 [(6, 16, 7)],
 [(0, 0, 0)],
 [(12, 0, 0)],
 [(7, 1, 3)],
 [(7, 2, 4)],
 [(7, 3, 1)],
 [(7, 4, 2)],
 [(7, 14, 6)],
 [(7, 16, 7)],
 [(0, 0, 0)],
 [(13, 0, 0)],
 [(8, 1, 3)],
 [(8, 2, 4)],
 [(8, 3, 1)],
 [(8, 4, 2)],
 [(8, 14, 6)],
 [(8, 16, 7)],
 [(0, 0, 0)],
 [(14, 0, 0)],
 [(15, 22, 0)],
 [(15, 22, 0)],
 [(15, 22, 0)],
 [(15, 22, 0)],
 [(15, 22, 0)],
 [(15, 22, 0)],
 [(15, 22, 0)],
 [(15, 22, 0)],
 [(16, 22, 0)],
 [(16, 22, 0)],
 [(16, 22, 0)],
 [(16, 22, 0)],
 [(16, 22, 0)],
 [(16, 22, 0)],
 [(16, 22, 0)],
 [(16, 22, 0)],
 [(9, 22, 0)],
 [(9, 22, 0)],
 [(9, 22, 0)],
 [(9, 22, 0)],
 [(9, 22, 0)],
 [(9, 22, 0)],
 [(9, 22, 0)],
 [(9, 22, 0)],
 [(10, 22, 0)],
 [(10, 22, 0)],
 [(10, 22, 0)],
 [(10, 22, 0)],
 [(10, 22, 0)],
 [(10, 22, 0)],
 [(10, 22, 0)],
 [(10, 22, 0)],
 [(0, 0, 0)],
 [(0, 0, 0)],
 [(0, 0, 0)],
 [(0, 0, 0)],
 [(0, 0, 0)],
 [(0, 0, 0)],
 [(0, 0, 0)],
 [(0, 0, 0)],
 [(0, 0, 0)],
 [(0, 0, 0)],
 [(0, 0, 0)],
 [(0, 0, 0)],
 [(0, 0, 0)],
 [(0, 0, 0)],
 [(0, 0, 0)],
 [(0, 0, 0)],
 [(17, 9, 0)],
 [(18, 9, 0)],
 [(19, 9, 0)],
 [(20, 9, 0)],
 [(21, 9, 0)],
 [(22, 9, 0)],
 [(23, 9, 0)],
 [(24, 9, 0)],
 [(25, 9, 0)],
 [(26, 9, 0)],
 [(27, 9, 0)],
 [(28, 9, 0)],
 [(29, 9, 0)],
 [(30, 9, 0)],
 [(31, 9, 0)],
 [(32, 9, 0)],
 [(1, 1, 6), (2, 1, 6), (3, 1, 6), (4, 1, 6), (5, 1, 6), (6, 1, 6), (7, 1, 6), (8, 1, 6)],
 [(1, 2, 7), (2, 2, 7), (3, 2, 7), (4, 2, 7), (5, 2, 7), (6, 2, 7), (7, 2, 7), (8, 2, 7)],
 [(0, 0, 0)],
 [(1, 2, 8), (0, 0, 0), (3, 2, 8), (4, 2, 8), (0, 0, 0), (6, 2, 8), (0, 0, 0), (8, 2, 8)],
 [(33, 1, 3)],
 [(33, 2, 4)],
 [(34, 1, 3)],
 [(34, 2, 4)],
 [(35, 1, 3)],
 [(35, 2, 4)],
 [(35, 3, 1)],
 [(35, 4, 2)],
 [(35, 2, 5), (35, 2, 5), (35, 2, 5), (35, 2, 5), (0, 0, 0), (0, 0, 0), (0, 0, 0), (0, 0, 0)],
 [(36, 4, 20)],
 [(35, 5, 2), (0, 0, 0), (35, 5, 2), (35, 5, 2), (0, 0, 0), (0, 0, 0), (0, 0, 0), (0, 0, 0)],
 [(10, 2, 0), (0, 0, 0), (0, 0, 0), (0, 0, 0), (0, 0, 0), (0, 0, 0), (0, 0, 0), (0, 0, 0)],
 [(34, 16, 22)],
 [(34, 16, 22)],
 [(34, 16, 22)],
 [(34, 16, 22)],
 [(34, 16, 22)],
 [(34, 16, 22)],
 [(34, 16, 22)],
 [(34, 16, 22)],
 [(37, 0, 0)],
 [(38, 0, 0)],
 [(40, 11, 0)],
 [(41, 0, 0)],
 [(42, 0, 0)],
 [(43, 0, 0)],
 [(44, 0, 0)],
 [(45, 0, 0)],
 [(35, 14, 12)],
 [(35, 16, 13)],
 [(35, 12, 14)],
 [(35, 13, 16)],
 [(46, 0, 0)],
 [(47, 0, 0)],
 [(48, 0, 0)],
 [(49, 0, 0)],
 [(33, 14, 6)],
 [(33, 16, 7)],
 [(50, 0, 0)],
 [(51, 0, 0)],
 [(52, 0, 0)],
 [(53, 0, 0)],
 [(54, 0, 0)],
 [(55, 0, 0)],
 [(35, 21, 6)],
 [(35, 21, 6)],
 [(35, 21, 6)],
 [(35, 21, 6)],
 [(35, 21, 6)],
 [(35, 21, 6)],
 [(35, 21, 6)],
 [(35, 21, 6)],
 [(35, 22, 7)],
 [(35, 22, 7)],
 [(35, 22, 7)],
 [(35, 22, 7)],
 [(35, 22, 7)],
 [(35, 22, 7)],
 [(35, 22, 7)],
 [(35, 22, 7)],
 [(0, 0, 0)],
 [(0, 0, 0)],
 [(56, 7, 0)],
 [(56, 0, 0)],
 [(58, 4, 19)],
 [(59, 4, 19)],
 [(35, 1, 6), (0, 0, 0), (0, 0, 0), (0, 0, 0), (0, 0, 0), (0, 0, 0), (0, 0, 0), (0, 0, 0)],
 [(35, 2, 7), (0, 0, 0), (0, 0, 0), (0, 0, 0), (0, 0, 0), (0, 0, 0), (0, 0, 0), (0, 0, 0)],
 [(0, 0, 0)],
 [(0, 0, 0)],
 [(57, 7, 0)],
 [(57, 0, 0)],
 [(60, 24, 0)],
 [(60, 6, 0)],
 [(61, 0, 0)],
 [(62, 0, 0)],
 [(63, 1, 18), (64, 1, 18), (65, 1, 18), (66, 1, 18), (67, 1, 18), (68, 1, 18), (0, 0, 0), (69, 1, 18)],
 [(63, 2, 18), (64, 2, 18), (65, 2, 18), (66, 2, 18), (67, 2, 18), (68, 2, 18), (0, 0, 0), (69, 2, 18)],
 [(63, 1, 15), (64, 1, 15), (65, 1, 15), (66, 1, 15), (67, 1, 15), (68, 1, 15), (0, 0, 0), (69, 1, 15)],
 [(63, 2, 15), (64, 2, 15), (65, 2, 15), (66, 2, 15), (67, 2, 15), (68, 2, 15), (0, 0, 0), (69, 2, 15)],
 [(70, 6, 0)],
 [(71, 6, 0)],
 [(0, 0, 0)],
 [(72, 0, 0)],
 [(73, 2, 0)],
 [(73, 2, 0)],
 [(73, 2, 0)],
 [(73, 2, 0)],
 [(73, 2, 0)],
 [(73, 2, 0)],
 [(73, 2, 0)],
 [(73, 2, 0)],
 [(74, 9, 0)],
 [(75, 9, 0)],
 [(76, 9, 0)],
 [(77, 9, 0)],
 [(78, 14, 6)],
 [(78, 16, 6)],
 [(79, 6, 14)],
 [(79, 6, 16)],
 [(39, 10, 0)],
 [(80, 10, 0)],
 [(81, 11, 0)],
 [(80, 9, 0)],
 [(78, 14, 17)],
 [(78, 16, 17)],
 [(79, 17, 14)],
 [(79, 17, 16)],
 [(0, 0, 0)],
 [(0, 0, 0)],
 [(0, 0, 0)],
 [(0, 0, 0)],
 [(82, 0, 0)],
 [(83, 0, 0)],
 [(33, 1, 6), (0, 0, 0), (84, 1, 0), (85, 1, 0), (86, 1, 0), (87, 1, 0), (88, 1, 0), (89, 1, 0)],
 [(33, 2, 7), (0, 0, 0), (84, 2, 0), (85, 2, 0), (86, 2, 0), (87, 2, 0), (88, 2, 0), (89, 2, 0)],
 [(90, 0, 0)],
 [(91, 0, 0)],
 [(92, 0, 0)],
 [(93, 0, 0)],
 [(94, 0, 0)],
 [(95, 0, 0)],
 [(15, 1, 0), (16, 1, 0), (0, 0, 0), (0, 0, 0), (0, 0, 0), (0, 0, 0), (0, 0, 0), (0, 0, 0)],
 [(15, 2, 0), (16, 2, 0), (39, 2, 0), (40, 19, 0), (80, 2, 0), (81, 19, 0), (9, 2, 0), (0, 0, 0)]]
def skipN : List Nat → List Nat
 | [] => []
 | c :: r => if c = 32 then r else skipN r
def takeN : List Nat → List Nat
 | [] => []
 | c :: r => if c = 32 then [] else c :: takeN r
def fndN (w : List Nat) : List Nat → List Nat → Nat → Nat
 | [], _, _ => 0
 | c :: r, cur, n => if c = 32 then (if cur = w then n else fndN w r [] (n + 1)) else fndN w r (cur ++ [c]) n
def prtN (mark : Nat) : List Nat → List Nat → Nat → List Nat
 | [], cur, n => if n = 0 then cur else []
 | c :: r, cur, n => if c = mark then (if n = 0 then cur else prtN mark r [] (n - 1)) else prtN mark r (cur ++ [c]) n
def nat (s : List UInt8) : List Nat := s.map UInt8.toNat
theorem nat_inj {a b : List UInt8} : nat a = nat b ↔ a = b := by
 constructor
 ·intro h
  exact List.map_inj_right (fun x y h => UInt8.toNat_inj.1 h) |>.1 h
 ·intro h; rw [h]
theorem nat_skip (s : List UInt8) : nat (skipU s) = skipN (nat s) := by
 induction s with
 | nil => rfl
 | cons c r ih =>
  simp only [skipU, nat, List.map_cons, skipN]
  split
  ·rfl
  ·exact ih
theorem nat_take (s : List UInt8) : nat (takeU s) = takeN (nat s) := by
 induction s with
 | nil => rfl
 | cons c r ih =>
  simp only [takeU, nat, List.map_cons, takeN]
  split
  ·rfl
  ·simp only [List.map_cons, List.cons.injEq, true_and]; exact ih
theorem nat_fnd (w : List UInt8) : ∀ (s cur : List UInt8) (n : Nat), fndU w s cur n = fndN (nat w) (nat s) (nat cur) n
 | [], cur, n => rfl
 | c :: r, cur, n => by
  have e1 := nat_fnd w r [] (n + 1)
  have e2 := nat_fnd w r (cur ++ [c]) n
  simp only [nat, List.map_append, List.map_cons, List.map_nil] at e1 e2
  simp only [fndU, nat, List.map_cons, fndN, e1, e2]
  have e3 : (List.map UInt8.toNat cur = List.map UInt8.toNat w) = (cur = w) := propext nat_inj
  simp only [e3]
theorem nat_prt (m : Nat) : ∀ (s cur : List UInt8) (n : Nat), nat (prtU m s cur n) = prtN m (nat s) (nat cur) n
 | [], cur, n => by simp only [prtU, nat, List.map_nil, prtN]; split <;> rfl
 | c :: r, cur, n => by
  have e1 := nat_prt m r [] (n - 1)
  have e2 := nat_prt m r (cur ++ [c]) n
  simp only [nat, List.map_append, List.map_cons, List.map_nil] at e1 e2
  simp only [prtU, nat, List.map_cons, prtN]
  split
  ·split
   ·rfl
   ·exact e1
  ·exact e2
theorem prtU_len (m : Nat) : ∀ (s cur : List UInt8) (n : Nat), (prtU m s cur n).length ≤ s.length + cur.length
 | [], cur, n => by simp only [prtU]; split <;> simp
 | c :: r, cur, n => by
  have e1 := prtU_len m r [] (n - 1)
  have e2 := prtU_len m r (cur ++ [c]) n
  simp only [List.length_append, List.length_cons, List.length_nil] at e1 e2
  simp only [prtU, List.length_cons]
  split
  ·split <;> omega
  ·omega
def wordsN : Nat → List Nat → List (List Nat)
 | 0, _ => []
 | n + 1, s => takeN s :: wordsN n (skipN s)
theorem wordsN_get : ∀ (n i : Nat) (s : List UInt8), i < n → (wordsN n (nat s))[i]? = some (nat (wordU s i))
 | 0, i, s, h => by omega
 | n + 1, 0, s, h => by simp [wordsN, wordU, nat_take]
 | n + 1, i + 1, s, h => by
  simp only [wordsN, List.getElem?_cons_succ, ← nat_skip, wordU]
  exact wordsN_get n i (skipU s) (by omega)
def sec (k : Nat) : Bool := (1 ≤ k && k ≤ 5) || k == 19 || k == 20
def rowN (e : List Nat) : Nat × Nat × Nat :=
 if e = [45] ∨ e = [] then (0, 0, 0) else (fndN (prtN 58 e [] 0) (nat NAMES) [] 1, fndN (prtN 58 e [] 1) (nat KINDS) [] 1, fndN (prtN 58 e [] 2) (nat KINDS) [] 1)
def rowsN (w : List Nat) : List (Nat × Nat × Nat) := if w.head? = some 47 then (List.range 8).map fun k => rowN (prtN 47 w [] (k + 1)) else [rowN w]
theorem lit_words : (wordsN 256 (nat TBL)).map rowsN = LIT := by kernel_rfl
def entN (w : List Nat) : List (List Nat) := if w.head? = some 47 then (List.range 8).map fun k => prtN 47 w [] (k + 1) else [w]
theorem lit_ok : (wordsN 256 (nat TBL)).all (fun w => (entN w).all fun e => decide (e = [45]) || decide (e = []) || !((rowN e).1 == 0)) = true := by kernel_rfl
def rw' (x : Nat × Nat × Nat) : Row × Bool := if x.1 = 0 then (⟨0, 0, 0, false⟩, false) else (⟨x.1, x.2.1, x.2.2, sec x.2.1 || sec x.2.2⟩, true)
def look (op k : Nat) : Nat × Nat × Nat := match LIT[op]? with
 | some l => if l.length = 1 then l.getD 0 (0, 0, 0) else l.getD k (0, 0, 0)
 | none => (0, 0, 0)
theorem tbl_len : TBL.length ≤ 100000 := by decide
theorem skipU_le : ∀ (s : List UInt8), (skipU s).length ≤ s.length
 | [] => by simp [skipU]
 | c :: r => by
  have := skipU_le r
  simp only [skipU, List.length_cons]
  split <;> omega
theorem wordU_len : ∀ (n : Nat) (s : List UInt8), (wordU s n).length ≤ s.length
 | 0, s => takeU_len s
 | n + 1, s => Nat.le_trans (wordU_len n (skipU s)) (skipU_le s)
theorem nat_head (w : List UInt8) : (nat w).head? = w.head?.map UInt8.toNat := by cases w <;> rfl
theorem lit_at (op : Nat) (h : op < 256) : LIT[op]? = some (rowsN (nat (wordU TBL op))) := by
 rw [← lit_words, List.getElem?_map, wordsN_get 256 op TBL h]; rfl
theorem ent_ok (op : Nat) (h : op < 256) : ∀ e ∈ entN (nat (wordU TBL op)), e = [45] ∨ e = [] ∨ (rowN e).1 ≠ 0 := by
 intro e he
 have h1 := lit_ok
 rw [List.all_eq_true] at h1
 have h2 := h1 (nat (wordU TBL op)) (List.mem_of_getElem? (wordsN_get 256 op TBL h))
 rw [List.all_eq_true] at h2
 have h3 := h2 e he
 simp only [Bool.or_eq_true, decide_eq_true_eq, Bool.not_eq_true', beq_eq_false_iff_ne] at h3
 rcases h3 with (h3 | h3) | h3
 ·exact .inl h3
 ·exact .inr (.inl h3)
 ·exact .inr (.inr h3)
theorem entry_spec (op : Nat) (h : op < 256) (reg : Int) : ∃ e, hansomref04_Entry (op : Int) reg = some e ∧ e.length ≤ 100000 ∧ nat e ∈ entN (nat (wordU TBL op)) ∧ look op (reg % 8).toNat = rowN (nat e) := by
 have w0 : IntKind.wrap .i64 (op : Int) = (op : Int) := wrap64 (by omega) (by omega)
 have hw := word_spec TBL op tbl_len (by omega)
 have hl := wordU_len op TBL
 have ht := tbl_len
 have a7 : bitsOp .and .i64 reg 7 = reg % 8 := and_mask reg 3 (by omega)
 have hk : reg % 8 = (((reg % 8).toNat : Nat) : Int) := by omega
 have hk8 : (reg % 8).toNat < 8 := by omega
 unfold hansomref04_Entry
 show ∃ e, ((hansomref04_word TBL (IntKind.wrap .i64 (op : Int))).bind _) = some e ∧ _
 rw [w0, hw, Option.bind_some]
 have hla := lit_at op h
 generalize wordU TBL op = w at *
 unfold look
 rw [hla]
 cases w with
 | nil =>
  simp only [List.length_nil, Int.natCast_zero, show ¬ (0 : Int) > 0 from by omega, decide_false, Bool.false_eq_true, if_false]
  exact ⟨[], rfl, by simp, by simp [entN, nat], by simp [rowsN, nat]⟩
 | cons c r =>
  simp only [show (((c :: r).length : Nat) : Int) > 0 from by simp, decide_true, if_true]
  rw [show idx (c :: r) 0 = some c from rfl, Option.bind_some]
  by_cases hc : c.toNat = 47
  ·have hc' : (((c.toNat : Nat) : Int) == 47) = true := by simp [hc]
   simp only [hc', if_true, a7]
   rw [hk, wrap64 (by omega) (by omega)]
   have hp := part_spec (c :: r) 47 ((reg % 8).toNat + 1) (by omega) (by omega)
   rw [show (((reg % 8).toNat : Nat) : Int) + 1 = (((reg % 8).toNat + 1 : Nat) : Int) from by omega]
   rw [show ((47 : Nat) : Int) = 47 from rfl] at hp
   rw [hp, Option.bind_some]
   have hlen := prtU_len 47 (c :: r) [] ((reg % 8).toNat + 1)
   have hn : (nat (c :: r)).head? = some 47 := by rw [nat_head]; simp [hc]
   refine ⟨_, rfl, by simp only [List.length_nil] at hlen; omega, ?_, ?_⟩
   ·rw [nat_prt]
    unfold entN
    rw [if_pos hn]
    exact List.mem_map.2 ⟨(reg % 8).toNat, List.mem_range.2 hk8, rfl⟩
   ·rw [nat_prt]
    simp only [rowsN, hn, if_true]
    have e1 : ((List.range 8).map fun k => rowN (prtN 47 (nat (c :: r)) [] (k + 1))).length = 8 := by simp
    rw [e1, if_neg (by omega), List.getD_eq_getElem?_getD, List.getElem?_map, Int.toNat_natCast, List.getElem?_range hk8]
    rfl
  ·have hc' : (((c.toNat : Nat) : Int) == 47) = false := by simp; omega
   simp only [hc', Bool.false_eq_true, if_false]
   have hn : ¬ (nat (c :: r)).head? = some 47 := by rw [nat_head]; simp [hc]
   refine ⟨_, rfl, by omega, ?_, ?_⟩
   ·unfold entN; rw [if_neg hn]; simp
   ·simp [rowsN, hn]
theorem second_spec (k : Nat) : hansomref04_second (k : Int) = some (sec k) := by
 by_cases hk : k < 21
 ·have : ∀ k : Fin 21, hansomref04_second (k.val : Int) = some (sec k.val) := by decide
  exact this ⟨k, hk⟩
 ·unfold hansomref04_second sec
  have h1 : (k : Int) ≥ 1 := by omega
  have h2 : ¬ (k : Int) ≤ 5 := by omega
  have h3 : ((k : Int) == 19) = false := by simp; omega
  have h4 : ((k : Int) == 20) = false := by simp; omega
  have n1 : ¬ k ≤ 5 := by omega
  have n2 : (k == 19) = false := by simp; omega
  have n3 : (k == 20) = false := by simp; omega
  simp only [h1, h2, h3, h4, n1, n2, n3, decide_true, decide_false, if_true, Bool.false_eq_true, if_false, Bool.and_false, Bool.or_false]
theorem row_spec (op : Nat) (h : op < 256) (reg : Int) : hansomref04_Row (op : Int) reg = some (rw' (look op (reg % 8).toNat)) := by
 obtain ⟨e, h1, h2, h3, h4⟩ := entry_spec op h reg
 have hok := ent_ok op h _ h3
 unfold hansomref04_Row
 rw [h1, Option.bind_some, h4]
 have b1 : (e == [45]) = decide (nat e = [45]) := by
  rw [Bool.eq_iff_iff]; simp only [beq_iff_eq, decide_eq_true_eq]; exact (nat_inj (b := [45])).symm
 have b2 : (e == []) = decide (nat e = []) := by
  rw [Bool.eq_iff_iff]; simp only [beq_iff_eq, decide_eq_true_eq]; exact (nat_inj (b := [])).symm
 simp only [b1, b2]
 by_cases c1 : nat e = [45]
 ·simp [c1, rw', rowN]
 by_cases c2 : nat e = []
 ·simp [c2, rw', rowN]
 simp only [c1, c2, decide_false, Bool.false_eq_true, if_false]
 have hne : (rowN (nat e)).1 ≠ 0 := by
  rcases hok with h | h | h
  ·exact absurd h c1
  ·exact absurd h c2
  ·exact h
 have p0 : hansomref04_part e 58 0 = some (prtU 58 e [] 0) := part_spec e 58 0 h2 (by omega)
 have p1 : hansomref04_part e 58 1 = some (prtU 58 e [] 1) := part_spec e 58 1 h2 (by omega)
 have p2 : hansomref04_part e 58 2 = some (prtU 58 e [] 2) := part_spec e 58 2 h2 (by omega)
 have f0 : hansomref04_Find (prtU 58 e [] 0) = some ((fndU (prtU 58 e [] 0) NAMES [] 1 : Nat) : Int) := by
  unfold hansomref04_Find
  show ((hansomref04_find NAMES _).bind _) = _
  rw [find_spec NAMES _ (by decide)]; rfl
 have f1 := find_spec KINDS (prtU 58 e [] 1) (by decide)
 have f2 := find_spec KINDS (prtU 58 e [] 2) (by decide)
 rw [p0, Option.bind_some, f0, Option.bind_some, p1, Option.bind_some]
 show ((hansomref04_find KINDS (prtU 58 e [] 1)).bind _) = _
 rw [f1, Option.bind_some, p2, Option.bind_some]
 show ((hansomref04_find KINDS (prtU 58 e [] 2)).bind _) = _
 rw [f2, Option.bind_some, second_spec, Option.bind_some, second_spec]
 have q0 : rowN (nat e) = (fndU (prtU 58 e [] 0) NAMES [] 1, fndU (prtU 58 e [] 1) KINDS [] 1, fndU (prtU 58 e [] 2) KINDS [] 1) := by
  unfold rowN
  rw [if_neg (by rintro (h | h); exact c1 h; exact c2 h), nat_fnd, nat_fnd, nat_fnd, nat_prt, nat_prt, nat_prt]
  rfl
 rw [q0] at hne ⊢
 unfold rw'
 rw [if_neg hne]
 simp only
 cases sec (fndU (prtU 58 e [] 1) KINDS [] 1) <;> simp
theorem of_lit : ∀ op : Fin 256, ∀ k : Fin 8, isa_Of (op.val : Int) (k.val : Int) = some (rw' (look op.val k.val)) := by decide +kernel
theorem of_mod (op reg : Int) : isa_Of op reg = isa_Of op (reg % 8) := by
 have a1 : bitsOp .and .i64 reg 7 = reg % 8 := and_mask reg 3 (by omega)
 have a2 : bitsOp .and .i64 (reg % 8) 7 = reg % 8 % 8 := and_mask _ 3 (by omega)
 unfold isa_Of
 rw [a1, a2, Int.emod_emod]
theorem of_spec (op : Nat) (h : op < 256) (reg : Int) : isa_Of (op : Int) reg = some (rw' (look op (reg % 8).toNat)) := by
 rw [of_mod]
 have := of_lit ⟨op, h⟩ ⟨(reg % 8).toNat, by omega⟩
 simp only at this
 rw [show (((reg % 8).toNat : Nat) : Int) = reg % 8 from by omega] at this
 exact this
theorem name_len : NAMES.length ≤ 100000 := by decide
def clsU (w : List UInt8) : Int := if w == [77, 79, 86, 83, 66] then 1 else if w == [77, 79, 86, 83, 87] then 1 else if w == [83, 84, 79, 83, 66] then 1 else if w == [83, 84, 79, 83, 87] then 1 else if w == [76, 79, 68, 83, 66] then 1 else if w == [76, 79, 68, 83, 87] then 1 else if w == [67, 77, 80, 83, 66] then 2 else if w == [67, 77, 80, 83, 87] then 2 else if w == [83, 67, 65, 83, 66] then 2 else if w == [83, 67, 65, 83, 87] then 2 else 0
def repI (n : Int) : Int := if n == 46 then 1 else if n == 47 then 1 else if n == 50 then 1 else if n == 51 then 1 else if n == 52 then 1 else if n == 53 then 1 else if n == 48 then 2 else if n == 49 then 2 else if n == 54 then 2 else if n == 55 then 2 else 0
theorem isaRep (n : Int) : isa_Repeats n = some (repI n) := by
 unfold isa_Repeats isa_Repeats_j28 repI
 by_cases h46 : (n == 46) = true
 ·simp only [beq_iff_eq] at h46; subst h46; rfl
 rw [Bool.not_eq_true] at h46
 by_cases h47 : (n == 47) = true
 ·simp only [beq_iff_eq] at h47; subst h47; rfl
 rw [Bool.not_eq_true] at h47
 by_cases h50 : (n == 50) = true
 ·simp only [beq_iff_eq] at h50; subst h50; rfl
 rw [Bool.not_eq_true] at h50
 by_cases h51 : (n == 51) = true
 ·simp only [beq_iff_eq] at h51; subst h51; rfl
 rw [Bool.not_eq_true] at h51
 by_cases h52 : (n == 52) = true
 ·simp only [beq_iff_eq] at h52; subst h52; rfl
 rw [Bool.not_eq_true] at h52
 by_cases h53 : (n == 53) = true
 ·simp only [beq_iff_eq] at h53; subst h53; rfl
 rw [Bool.not_eq_true] at h53
 by_cases h48 : (n == 48) = true
 ·simp only [beq_iff_eq] at h48; subst h48; rfl
 rw [Bool.not_eq_true] at h48
 by_cases h49 : (n == 49) = true
 ·simp only [beq_iff_eq] at h49; subst h49; rfl
 rw [Bool.not_eq_true] at h49
 by_cases h54 : (n == 54) = true
 ·simp only [beq_iff_eq] at h54; subst h54; rfl
 rw [Bool.not_eq_true] at h54
 by_cases h55 : (n == 55) = true
 ·simp only [beq_iff_eq] at h55; subst h55; rfl
 rw [Bool.not_eq_true] at h55
 simp only [h46, h47, h50, h51, h52, h53, h48, h49, h54, h55, Bool.false_eq_true, if_false]
theorem refRep_of (n : Int) (w : List UInt8) (hn : hansomref04_Name n = some w) : hansomref04_Repeats n = some (clsU w) := by
 unfold hansomref04_Repeats hansomref04_Repeats_j28 clsU
 rw [hn, Option.bind_some]
 by_cases h0 : (w == [77, 79, 86, 83, 66]) = true
 ·simp only [beq_iff_eq] at h0; subst h0; rfl
 rw [Bool.not_eq_true] at h0
 by_cases h1 : (w == [77, 79, 86, 83, 87]) = true
 ·simp only [beq_iff_eq] at h1; subst h1; rfl
 rw [Bool.not_eq_true] at h1
 by_cases h2 : (w == [83, 84, 79, 83, 66]) = true
 ·simp only [beq_iff_eq] at h2; subst h2; rfl
 rw [Bool.not_eq_true] at h2
 by_cases h3 : (w == [83, 84, 79, 83, 87]) = true
 ·simp only [beq_iff_eq] at h3; subst h3; rfl
 rw [Bool.not_eq_true] at h3
 by_cases h4 : (w == [76, 79, 68, 83, 66]) = true
 ·simp only [beq_iff_eq] at h4; subst h4; rfl
 rw [Bool.not_eq_true] at h4
 by_cases h5 : (w == [76, 79, 68, 83, 87]) = true
 ·simp only [beq_iff_eq] at h5; subst h5; rfl
 rw [Bool.not_eq_true] at h5
 by_cases h6 : (w == [67, 77, 80, 83, 66]) = true
 ·simp only [beq_iff_eq] at h6; subst h6; rfl
 rw [Bool.not_eq_true] at h6
 by_cases h7 : (w == [67, 77, 80, 83, 87]) = true
 ·simp only [beq_iff_eq] at h7; subst h7; rfl
 rw [Bool.not_eq_true] at h7
 by_cases h8 : (w == [83, 67, 65, 83, 66]) = true
 ·simp only [beq_iff_eq] at h8; subst h8; rfl
 rw [Bool.not_eq_true] at h8
 by_cases h9 : (w == [83, 67, 65, 83, 87]) = true
 ·simp only [beq_iff_eq] at h9; subst h9; rfl
 rw [Bool.not_eq_true] at h9
 simp only [h0, h1, h2, h3, h4, h5, h6, h7, h8, h9, Bool.false_eq_true, if_false]
theorem cls_lit : (List.range 95).map (fun i => clsU (wordU NAMES i)) = (List.range 95).map (fun i => repI ((i + 1 : Nat) : Int)) := by decide +kernel
theorem refRep (n : Int) : hansomref04_Repeats n = some (repI n) := by
 by_cases h1 : n < 1
 ·rw [refRep_of n [63] (by unfold hansomref04_Name; simp [h1])]
  have : repI n = 0 := by
   unfold repI
   have n46 : (n == 46) = false := by simp; omega
   have n47 : (n == 47) = false := by simp; omega
   have n50 : (n == 50) = false := by simp; omega
   have n51 : (n == 51) = false := by simp; omega
   have n52 : (n == 52) = false := by simp; omega
   have n53 : (n == 53) = false := by simp; omega
   have n48 : (n == 48) = false := by simp; omega
   have n49 : (n == 49) = false := by simp; omega
   have n54 : (n == 54) = false := by simp; omega
   have n55 : (n == 55) = false := by simp; omega
   simp only [n46, n47, n50, n51, n52, n53, n48, n49, n54, n55, Bool.false_eq_true, if_false]
  rw [this]; rfl
 ·by_cases h2 : n > 95
  ·rw [refRep_of n [63] (by unfold hansomref04_Name; simp [h1, h2])]
   have : repI n = 0 := by
    unfold repI
    have n46 : (n == 46) = false := by simp; omega
    have n47 : (n == 47) = false := by simp; omega
    have n50 : (n == 50) = false := by simp; omega
    have n51 : (n == 51) = false := by simp; omega
    have n52 : (n == 52) = false := by simp; omega
    have n53 : (n == 53) = false := by simp; omega
    have n48 : (n == 48) = false := by simp; omega
    have n49 : (n == 49) = false := by simp; omega
    have n54 : (n == 54) = false := by simp; omega
    have n55 : (n == 55) = false := by simp; omega
    simp only [n46, n47, n50, n51, n52, n53, n48, n49, n54, n55, Bool.false_eq_true, if_false]
   rw [this]; rfl
  ·obtain ⟨k, rfl⟩ : ∃ k : Nat, n = ((k + 1 : Nat) : Int) := ⟨(n - 1).toNat, by omega⟩
   have hk : k < 95 := by omega
   have hN : hansomref04_Name ((k + 1 : Nat) : Int) = some (wordU NAMES k) := by
    unfold hansomref04_Name
    simp only [h1, h2, decide_false, Bool.false_eq_true, if_false]
    show ((hansomref04_word NAMES (IntKind.wrap .i64 (((k + 1 : Nat) : Int) - 1))).bind _) = _
    rw [wrap64 (by omega) (by omega), show ((k + 1 : Nat) : Int) - 1 = (k : Int) from by omega, word_spec NAMES k name_len (by omega)]
    rfl
   rw [refRep_of _ _ hN]
   have := congrArg (fun l => l[k]?) cls_lit
   simp only [List.getElem?_map, List.getElem?_range hk, Option.map_some] at this
   exact this
def isP (b : Nat) : Bool := b == 38 || b == 46 || b == 54 || b == 62 || b == 240 || b == 242 || b == 243
theorem prefix_lit : ∀ b : Fin 256, isa_Prefix (b.val : Int) = some (isP b.val) := by decide +kernel
theorem iteF (c b : Bool) : (if c = true then some false else some b) = some (!c && b) := by cases c <;> rfl
theorem iteT (c b : Bool) : (if c = true then some b else some false) = some (c && b) := by cases c <;> rfl
theorem iteB (c b : Bool) : (if c = true then b else false) = (c && b) := by cases c <;> rfl
theorem iteN (c b : Bool) : (if c = true then false else b) = (!c && b) := by cases c <;> rfl
theorem iteS (c a b : Bool) : (if c = true then some a else some b) = some (if c = true then a else b) := by cases c <;> rfl
def bytI (k : Int) : Int := if k == 6 then 1 else if k == 8 then 1 else if k == 9 then 1 else if k == 7 then 2 else if k == 10 then 2 else if k == 12 then 2 else if k == 13 then 2 else if k == 11 then 4 else 0
theorem bytes_spec (k : Int) : hansomref04_Bytes k = some (bytI k) := by
 unfold hansomref04_Bytes hansomref04_Bytes_j16 bytI
 cases h1 : (k == 6)
 ·cases h2 : (k == 8)
  ·cases h3 : (k == 9)
   ·cases h4 : (k == 7)
    ·cases h5 : (k == 10)
     ·cases h6 : (k == 12)
      ·cases h7 : (k == 13)
       ·cases h8 : (k == 11) <;> rfl
       ·rfl
      ·rfl
     ·rfl
    ·rfl
   ·rfl
  ·rfl
 ·rfl
theorem imm_spec (k : Int) : isa_Immediate k = some (bytI k) := bytes_spec k
theorem bytI_lo (k : Int) : bytI k = 0 ∨ bytI k = 1 ∨ bytI k = 2 ∨ bytI k = 4 := by
 unfold bytI
 repeat' split
 all_goals simp
def fitB (w : Int) : Bool := decide (w < 128) || decide (w ≥ 65408)
theorem refFits (w : Int) : hansomref01_Fits w = some (fitB w) := by
 unfold hansomref01_Fits fitB
 cases h : decide (w < 128) <;> simp
theorem wrap_i8' (n : Int) : IntKind.wrap .i8 n = (n + 128) % 256 - 128 := by
 simp only [IntKind.wrap, IntKind.bits, IntKind.signed]
 simp [Int.bmod_def]
 split <;> omega
theorem wrap_i16' (n : Int) : IntKind.wrap .i16 n = (n + 32768) % 65536 - 32768 := by
 simp only [IntKind.wrap, IntKind.bits, IntKind.signed]
 simp [Int.bmod_def]
 split <;> omega
theorem wrap_u8' (n : Int) : IntKind.wrap .u8 n = n % 256 := by simp [IntKind.wrap, IntKind.bits, IntKind.signed]
def sgn (b : Int) : Int := if b < 128 then b else b + 65280
theorem bitsSign {b : Int} (h0 : 0 ≤ b) (h1 : b ≤ 255) : bits_Sign b = some (sgn b) := by
 unfold bits_Sign sgn
 rw [wrap_i8', wrap_i16', wrap_u16']
 congr 1
 split <;> omega
theorem bitsFits {w : Int} (h0 : 0 ≤ w) (h1 : w ≤ 65535) : bits_Fits w = some (fitB w) := by
 unfold bits_Fits bits_Low
 rw [Option.bind_some, wrap_u8', bitsSign (by omega) (by omega), Option.bind_some]
 congr 1
 rw [Bool.eq_iff_iff]
 unfold sgn fitB
 simp only [beq_iff_eq, Bool.or_eq_true, decide_eq_true_eq]
 split <;> omega
def dispI (m r : Int) : Int := if m == 1 then 1 else if m == 2 then 2 else if m == 0 then (if r == 6 then 2 else 0) else 0
theorem instDisps (m r : Int) : inst_Disps m r = some (dispI m r) := by
 unfold inst_Disps dispI
 cases (m == 1) <;> cases (m == 2) <;> cases (m == 0) <;> cases (r == 6) <;> rfl
theorem refDisps (m r : Int) : hansomref05_Disps m r = some (dispI m r) := by
 unfold hansomref05_Disps dispI
 cases (m == 1) <;> cases (m == 2) <;> cases (m == 0) <;> cases (r == 6) <;> rfl
theorem dispI_lo (m r : Int) : dispI m r = 0 ∨ dispI m r = 1 ∨ dispI m r = 2 := by
 unfold dispI
 repeat' split
 all_goals simp
def stepB (i : Inst) (r : Row) (k : Int) : Option Bool :=
 if k == 6 then some (decide (i.Imm < 256) && (i.Sel == 0 && (if (r.Name != 70) = true then (if (r.Name != 71) = true then true else i.Imm == 10) else i.Imm == 10)))
 else if k == 8 then some (fitB i.Imm && i.Sel == 0) else if k == 9 then some (fitB i.Imm && i.Sel == 0)
 else if k == 7 then some (i.Sel == 0) else if k == 10 then some (i.Sel == 0) else if k == 12 then some (i.Sel == 0) else if k == 13 then some (i.Sel == 0)
 else if k == 11 then some true else none
theorem stepB_none (i : Inst) (r : Row) (k : Int) : stepB i r k = none ↔ bytI k = 0 := by
 unfold stepB bytI
 cases (k == 6) <;> cases (k == 8) <;> cases (k == 9) <;> cases (k == 7) <;> cases (k == 10) <;> cases (k == 12) <;> cases (k == 13) <;> cases (k == 11) <;> simp
def behB (i : Inst) (r : Row) : Bool := match stepB i r (if bytI r.A == 0 then r.B else r.A) with
 | some b => b
 | none => i.Imm == 0 && i.Sel == 0
theorem ref82t (i : Inst) (k : Int) : hansomref05_May_j82 i k true = some (fitB i.Imm && i.Sel == 0) := by
 unfold hansomref05_May_j82
 simp only [refFits, Option.bind_some, if_true, iteT]
theorem ref66 (i : Inst) (r : Row) (k : Int) : hansomref05_May_j66 i r k = some (match stepB i r k with | some b => b | none => i.Imm == 0 && i.Sel == 0) := by
 unfold hansomref05_May_j66 stepB
 rw [ref82t]
 cases h6 : (k == 6) with
 | true =>
  simp only [if_true]
  cases decide (i.Imm < 256) <;> cases (i.Sel == 0) <;> cases (r.Name != 70) <;> cases (r.Name != 71) <;> rfl
 | false =>
  simp only [Bool.false_eq_true, if_false]
  cases h8 : (k == 8) with
  | true => rfl
  | false =>
   simp only [Bool.false_eq_true, if_false]
   cases h9 : (k == 9) with
   | true => rw [ref82t]; rfl
   | false =>
    unfold hansomref05_May_j82
    cases (k == 7) <;> cases (k == 10) <;> cases (k == 12) <;> cases (k == 13) <;> cases (k == 11) <;> cases (i.Imm == 0) <;> rfl
theorem ref58 (i : Inst) (r : Row) : hansomref05_May_j58 i r = some (behB i r) := by
 unfold hansomref05_May_j58 behB
 rw [bytes_spec, Option.bind_some, ref66, ref66]
 cases (bytI r.A == 0) <;> rfl
theorem beh6 (i : Inst) (r : Row) (t : A2 Int) (n z : Int) (h0 : 0 ≤ i.Imm) (h1 : i.Imm ≤ 65535) (hn : n < 2) (hz : idx t.l n = some z) :
  inst_behind_l6 i r t n = (match stepB i r z with | some b => some (.out (.inl b)) | none => some (.next (IntKind.wrap .i64 (n + 1)))) := by
 unfold inst_behind_l6 inst_behind_j32 stepB
 simp only [hn, decide_true, if_true, hz, Option.bind_some, bitsFits h0 h1]
 cases (z == 6) with
 | true =>
  simp only [if_true]
  cases decide (i.Imm < 256) <;> cases (i.Sel == 0) <;> cases (r.Name != 70) <;> cases (r.Name != 71) <;> rfl
 | false =>
  cases (z == 8) <;> cases (z == 9) <;> cases (z == 7) <;> cases (z == 10) <;> cases (z == 12) <;> cases (z == 13) <;> cases (z == 11) <;> cases fitB i.Imm <;> rfl
theorem behind_spec (i : Inst) (r : Row) (h0 : 0 ≤ i.Imm) (h1 : i.Imm ≤ 65535) : inst_behind i r = some (behB i r) := by
 unfold inst_behind
 have e0 := beh6 i r ⟨r.A, r.B⟩ 0 r.A h0 h1 (by omega) rfl
 have e1 := beh6 i r ⟨r.A, r.B⟩ 1 r.B h0 h1 (by omega) rfl
 have e2 : inst_behind_l6 i r ⟨r.A, r.B⟩ 2 = some (.out (.inr ())) := by unfold inst_behind_l6; rfl
 unfold behB
 rw [loopO_eq, e0]
 cases hA : stepB i r r.A with
 | some b =>
  have : ¬ bytI r.A = 0 := fun h => by rw [(stepB_none i r r.A).2 h] at hA; cases hA
  have hb : (bytI r.A == 0) = false := by simpa using this
  simp only [hb, Bool.false_eq_true, if_false, hA, Option.bind_some]
 | none =>
  have hb : (bytI r.A == 0) = true := by simpa using (stepB_none i r r.A).1 hA
  simp only [hb, if_true, Option.bind_some]
  rw [show IntKind.wrap .i64 (0 + 1) = 1 from rfl, loopO_eq, e1]
  cases hB : stepB i r r.B with
  | some b => simp only [Option.bind_some]
  | none =>
   simp only [Option.bind_some]
   rw [show IntKind.wrap .i64 (1 + 1) = 2 from rfl, loopO_eq, e2]
   simp only [Option.bind_some, iteT]
def rowI (op reg : Int) : Row × Bool := if isP op.toNat then (⟨0, 0, 0, false⟩, false) else rw' (look op.toNat (reg % 8).toNat)
theorem refPrefix : ∀ b : Fin 256, hansomref05_prefix (b.val : Int) = some (isP b.val) := by decide +kernel
theorem instRow (i : Inst) (h : 0 ≤ i.Op ∧ i.Op ≤ 255) : inst_Row i = some (rowI i.Op i.Reg) := by
 obtain ⟨n, hn⟩ : ∃ n : Nat, i.Op = n := ⟨i.Op.toNat, by omega⟩
 have hn' : n < 256 := by omega
 have hp := prefix_lit ⟨n, hn'⟩
 unfold inst_Row rowI
 rw [hn, hp, Option.bind_some, of_spec n hn']
 simp only [Int.toNat_natCast]
 cases isP n <;> rfl
theorem refRow (i : Inst) (h : 0 ≤ i.Op ∧ i.Op ≤ 255) : hansomref05_Row i = some (rowI i.Op i.Reg) := by
 obtain ⟨n, hn⟩ : ∃ n : Nat, i.Op = n := ⟨i.Op.toNat, by omega⟩
 have hn' : n < 256 := by omega
 have hp := refPrefix ⟨n, hn'⟩
 unfold hansomref05_Row rowI
 rw [hn, hp, Option.bind_some, row_spec n hn']
 simp only [Int.toNat_natCast]
 cases isP n <;> rfl
def secB (i : Inst) (r : Row) : Bool :=
 if r.Mod = true then
  !decide (i.Mod < 0) && (!decide (i.Mod > 3) && (!decide (i.Reg < 0) && (!decide (i.Reg > 7) && (!decide (i.RM < 0) && (!decide (i.RM > 7) &&
   ((if (i.Mod == 3) = true then !(r.A == 19) && (!(r.A == 20) && (!(r.B == 19) && !(r.B == 20))) else true) &&
    (if (dispI i.Mod i.RM == 0) = true then i.Disp == 0 else if (dispI i.Mod i.RM == 1) = true then fitB i.Disp else true)))))))
 else i.Mod == 0 && (i.Reg == 0 && (i.RM == 0 && i.Disp == 0))
theorem second26 (i : Inst) (h0 : 0 ≤ i.Disp) (h1 : i.Disp ≤ 65535) : inst_second_j26 i = some (if (dispI i.Mod i.RM == 0) = true then i.Disp == 0 else if (dispI i.Mod i.RM == 1) = true then fitB i.Disp else true) := by
 unfold inst_second_j26
 simp only [instDisps, Option.bind_some, bitsFits h0 h1, iteS]
theorem instSecond (i : Inst) (r : Row) (h0 : 0 ≤ i.Disp) (h1 : i.Disp ≤ 65535) (hA : r.A ≠ 20) : inst_second i r = some (secB i r) := by
 unfold inst_second secB
 have hA' : (r.A == 20) = false := by simpa using hA
 simp only [second26 i h0 h1, iteT, iteF, iteS, iteB, iteN, hA', Bool.not_false, Bool.true_and]
 cases r.Mod with
 | false => rfl
 | true =>
  simp only [Bool.not_true, Bool.false_eq_true, if_false, if_true]
  cases (i.Mod == 3) <;> cases (r.A == 19) <;> cases (r.B == 19) <;> cases (r.B == 20) <;> simp
theorem ref49 (i : Inst) (r : Row) : hansomref05_May_j49 i r = some ((if (dispI i.Mod i.RM == 0) = true then i.Disp == 0 else if (dispI i.Mod i.RM == 1) = true then fitB i.Disp else true) && behB i r) := by
 unfold hansomref05_May_j49
 simp only [refDisps, Option.bind_some, refFits, ref58, iteF, Bool.not_not]
 rcases dispI_lo i.Mod i.RM with h | h | h <;> rw [h]
 ·cases hd : (i.Disp == 0) <;> simp [bne, hd]
 ·simp
 ·simp
theorem ref22 (i : Inst) (r : Row) : hansomref05_May_j22 i r = some (secB i r && behB i r) := by
 unfold hansomref05_May_j22 secB
 simp only [ref58, ref49, iteF, iteT, bne]
 cases r.Mod with
 | false =>
  simp only [Bool.not_false, if_true, Bool.not_not, Bool.false_eq_true, if_false, Bool.and_assoc]
 | true =>
  simp only [Bool.not_true, Bool.false_eq_true, if_false, if_true, iteS, iteB, iteN]
  cases (i.Mod == 3) <;> simp [Bool.and_assoc]
def preB (i : Inst) (r : Row) : Bool := (decide (i.Seg ≥ 0) && decide (i.Seg ≤ 4)) && (i.Rep == 0 || (i.Rep == 1 && !decide (repI r.Name < 2)) || (i.Rep == 2 && !decide (repI r.Name < 1)))
theorem instPrefixes (i : Inst) (r : Row) : inst_prefixes i r = some (preB i r) := by
 unfold inst_prefixes preB
 simp only [isaRep, Option.bind_some, iteT, iteF, iteS, iteB, iteN]
 congr 1
 by_cases h0 : i.Rep = 0
 ·simp [h0]
 ·by_cases h1 : i.Rep = 1
  ·simp [h1, Bool.and_comm]
  ·by_cases h2 : i.Rep = 2
   ·simp [h2, Bool.and_comm]
   ·have b0 : (i.Rep == 0) = false := by simpa using h0
    have b1 : (i.Rep == 1) = false := by simpa using h1
    have b2 : (i.Rep == 2) = false := by simpa using h2
    simp [b0, b1, b2]
def mayB (i : Inst) : Bool := (rowI i.Op i.Reg).2 && (secB i (rowI i.Op i.Reg).1 && (behB i (rowI i.Op i.Reg).1 && preB i (rowI i.Op i.Reg).1))
def okI (i : Inst) : Prop := (0 ≤ i.Op ∧ i.Op ≤ 255) ∧ (0 ≤ i.Disp ∧ i.Disp ≤ 65535) ∧ (0 ≤ i.Imm ∧ i.Imm ≤ 65535) ∧ (0 ≤ i.Sel ∧ i.Sel ≤ 65535)
def tblB (x : Nat × Nat × Nat) : Bool := x.2.1 != 20 && (let a := bytI x.2.1; let b := bytI x.2.2; (a + b == 0 || a + b == 1 || a + b == 2 || (a + b == 4 && !(sec x.2.1 || sec x.2.2))) && (!decide (repI x.1 ≥ 1) || (a + b == 0 && !(sec x.2.1 || sec x.2.2))))
theorem tbl_ok : LIT.all (fun l => l.all tblB) = true := by decide +kernel
theorem look_ok (op k : Nat) : tblB (look op k) = true := by
 have h := tbl_ok
 rw [List.all_eq_true] at h
 unfold look
 cases hl : LIT[op]? with
 | none => rfl
 | some l =>
  have h1 := h l (List.mem_of_getElem? hl)
  rw [List.all_eq_true] at h1
  have g : ∀ j, tblB (l.getD j (0, 0, 0)) = true := fun j => by
   rw [List.getD_eq_getElem?_getD]
   cases hj : l[j]? with
   | none => rfl
   | some x => exact h1 x (List.mem_of_getElem? hj)
  simp only
  split
  ·exact g 0
  ·exact g k
theorem row_facts (op reg : Int) (h : (rowI op reg).2 = true) : (rowI op reg).1.A ≠ 20 ∧ (bytI (rowI op reg).1.A + bytI (rowI op reg).1.B = 0 ∨ bytI (rowI op reg).1.A + bytI (rowI op reg).1.B = 1 ∨ bytI (rowI op reg).1.A + bytI (rowI op reg).1.B = 2 ∨
  bytI (rowI op reg).1.A + bytI (rowI op reg).1.B = 4 ∧ (rowI op reg).1.Mod = false) ∧ (repI (rowI op reg).1.Name ≥ 1 → bytI (rowI op reg).1.A + bytI (rowI op reg).1.B = 0 ∧ (rowI op reg).1.Mod = false) := by
 have hl := look_ok op.toNat (reg % 8).toNat
 unfold rowI at h ⊢
 cases hp : isP op.toNat with
 | true => rw [hp] at h; simp at h
 | false =>
  rw [hp] at h
  simp only [Bool.false_eq_true, if_false] at h ⊢
  generalize look op.toNat (reg % 8).toNat = x at *
  unfold rw' at h ⊢
  split at h
  ·cases h
  ·rename_i hx
   rw [if_neg hx]
   simp only
   simp only [tblB, Bool.and_eq_true, Bool.or_eq_true, bne_iff_ne, beq_iff_eq, Bool.not_eq_true', decide_eq_false_iff_not] at hl
   obtain ⟨l1, l2, l3⟩ := hl
   refine ⟨by omega, ?_, fun hr => ?_⟩
   ·rcases l2 with ((h | h) | h) | h
    ·exact .inl h
    ·exact .inr (.inl h)
    ·exact .inr (.inr (.inl h))
    ·exact .inr (.inr (.inr h))
   ·rcases l3 with h | h
    ·exact absurd hr h
    ·exact h
theorem instMay (i : Inst) (h : okI i) : inst_May i = some (mayB i) := by
 unfold inst_May mayB
 rw [instRow i h.1, Option.bind_some]
 cases hr : (rowI i.Op i.Reg).2 with
 | false => rfl
 | true =>
  have hf := row_facts i.Op i.Reg hr
  simp only [if_true]
  rw [instSecond i _ h.2.1.1 h.2.1.2 hf.1, Option.bind_some, behind_spec i _ h.2.2.1.1 h.2.2.1.2, Option.bind_some, instPrefixes, Option.bind_some]
  simp only [iteT, Bool.true_and]
theorem refMay (i : Inst) (h : okI i) : hansomref05_May i = some (mayB i) := by
 unfold hansomref05_May mayB
 rw [refRow i h.1, Option.bind_some]
 simp only [refRep, Option.bind_some, ref22, iteF, iteS, iteB, iteN]
 cases (rowI i.Op i.Reg).2 with
 | false => rfl
 | true =>
  simp only [Bool.not_true, Bool.not_false, Bool.true_and]
  unfold preB
  by_cases hs : 0 ≤ i.Seg ∧ i.Seg ≤ 4
  ·have s1 : ¬ i.Seg < 0 := by omega
   have s2 : ¬ i.Seg > 4 := by omega
   have s3 : i.Seg ≥ 0 := by omega
   simp only [s1, s2, s3, hs.2, decide_true, decide_false, Bool.not_false, Bool.true_and]
   by_cases h0 : i.Rep = 0
   ·simp [h0]
   ·by_cases h1 : i.Rep = 1
    ·simp [h1, Bool.and_comm, Bool.and_left_comm, Bool.and_assoc]
    ·by_cases h2 : i.Rep = 2
     ·simp [h2, Bool.and_comm, Bool.and_left_comm, Bool.and_assoc]
     ·have : i.Rep < 0 ∨ i.Rep > 2 := by omega
      rcases this with h | h
      ·simp [h0, h1, h2, h]
      ·simp [h0, h1, h2, h]
  ·have : i.Seg < 0 ∨ i.Seg > 4 := by omega
   rcases this with h | h
   ·have : ¬ i.Seg ≥ 0 := by omega
    simp [h, this]
   ·have : ¬ i.Seg ≤ 4 := by omega
    simp [h, this]
theorem i144 : okI ⟨false, 0, 0, 144, 0, 0, 0, 0, 0, 0⟩ ∧ mayB ⟨false, 0, 0, 144, 0, 0, 0, 0, 0, 0⟩ = true := by
 refine ⟨⟨by simp, by simp, by simp, by simp⟩, ?_⟩
 decide +kernel
theorem mayB_facts (i : Inst) (h : mayB i = true) : (rowI i.Op i.Reg).2 = true ∧ (0 ≤ i.Seg ∧ i.Seg ≤ 4) ∧ (0 ≤ i.Rep ∧ i.Rep ≤ 2) ∧ (i.Rep > 0 → repI (rowI i.Op i.Reg).1.Name ≥ 1) ∧
  ((rowI i.Op i.Reg).1.Mod = true → (0 ≤ i.Mod ∧ i.Mod ≤ 3) ∧ (0 ≤ i.Reg ∧ i.Reg ≤ 7) ∧ (0 ≤ i.RM ∧ i.RM ≤ 7)) := by
 simp only [mayB, Bool.and_eq_true] at h
 obtain ⟨h1, h2, h3, h4⟩ := h
 simp only [preB, Bool.and_eq_true, Bool.or_eq_true, beq_iff_eq, decide_eq_true_eq, Bool.not_eq_true', decide_eq_false_iff_not] at h4
 refine ⟨h1, h4.1, by omega, fun hr => by omega, fun hm => ?_⟩
 simp only [secB, hm, if_true, Bool.and_eq_true, Bool.not_eq_true', decide_eq_false_iff_not] at h2
 omega
theorem imms_spec (r : Row) : inst_Imms r = some (bytI r.A + bytI r.B) := by
 unfold inst_Imms
 have := bytI_lo r.A; have := bytI_lo r.B
 rw [imm_spec, Option.bind_some, imm_spec, Option.bind_some, wrap64 (by omega) (by omega)]
theorem refImms (r : Row) : hansomref05_Imms r = some (bytI r.A + bytI r.B) := by
 unfold hansomref05_Imms
 have := bytI_lo r.A; have := bytI_lo r.B
 rw [bytes_spec, Option.bind_some, bytes_spec, Option.bind_some, wrap64 (by omega) (by omega)]
def twoI (w : Int) : List Int := [w % 256, w / 256]
theorem two_spec {w : Int} (h0 : 0 ≤ w) (h1 : w ≤ 65535) : hansomref05_two w = some (twoI w) := by
 unfold hansomref05_two twoI
 rw [Int.tmod_eq_emod_of_nonneg h0, Int.tdiv_eq_ediv_of_nonneg h0, wrap_u8', wrap_u8', wrap_u16']
 congr 2
 ·omega
 ·congr 1; omega
def behL (i : Inst) (m : Int) : List Int := if m = 1 ∨ m = 2 then (twoI i.Imm).take m.toNat else if m = 4 then twoI i.Imm ++ twoI i.Sel else []
def modL (i : Inst) (r : Row) : List Int := if r.Mod = true then (64 * i.Mod + 8 * i.Reg + i.RM) :: (twoI i.Disp).take (dispI i.Mod i.RM).toNat else []
def aheadL (i : Inst) : List Int := (if i.Lock then [240] else []) ++ ((if i.Rep > 0 then [241 + i.Rep] else []) ++ (if i.Seg > 0 then [30 + 8 * i.Seg] else []))
def putL (i : Inst) : List Int := aheadL i ++ ([i.Op] ++ (modL i (rowI i.Op i.Reg).1 ++ behL i (bytI (rowI i.Op i.Reg).1.A + bytI (rowI i.Op i.Reg).1.B)))
theorem twoI_len (w : Int) : (twoI w).length = 2 := rfl
theorem put34 (i : Inst) (r : Row) (b : List Int) (hb : b.length ≤ 100) (h1 : 0 ≤ i.Imm ∧ i.Imm ≤ 65535) (h2 : 0 ≤ i.Sel ∧ i.Sel ≤ 65535) : hansomref05_Put_j34 i r b = some (b ++ behL i (bytI r.A + bytI r.B)) := by
 unfold hansomref05_Put_j34
 rw [refImms, Option.bind_some]
 generalize bytI r.A + bytI r.B = m
 have j : ∀ t : Bool, t = decide (m = 1 ∨ m = 2) → hansomref05_Put_j46 i b m m t = some (b ++ behL i m) := by
  intro t ht
  unfold hansomref05_Put_j46 behL
  rw [two_spec h1.1 h1.2, two_spec h2.1 h2.2]
  subst ht
  by_cases hm : m = 1 ∨ m = 2
  ·simp only [hm, decide_true, if_true, Option.bind_some]
   rw [cutL_eq (by omega) (by omega) (by rw [twoI_len]; omega), Option.bind_some, grow_eq (by simp [twoI]; omega) (by simp [twoI]; omega), Option.bind_some]
   simp
  ·simp only [hm, decide_false, Bool.false_eq_true, if_false, Option.bind_some]
   by_cases h4 : m = 4
   ·simp only [h4, beq_self_eq_true, if_true]
    rw [grow_eq (by simp [twoI]; omega) (by simp [twoI]; omega), Option.bind_some, grow_eq (by simp [twoI]; omega) (by simp [twoI]; omega), Option.bind_some, List.append_assoc]
   ·have : (m == 4) = false := by simpa using h4
    simp [this, h4]
 by_cases m1 : m = 1
 ·subst m1; simp only [beq_self_eq_true, if_true]; exact j true rfl
 ·have : (m == 1) = false := by simpa using m1
  simp only [this, Bool.false_eq_true, if_false]
  refine j _ ?_
  rw [Bool.eq_iff_iff]; simp [m1]
theorem modL_len (i : Inst) (r : Row) : (modL i r).length ≤ 3 := by unfold modL; split <;> simp [twoI]; omega
theorem put24 (i : Inst) (r : Row) (b : List Int) (hb : b.length ≤ 50) (h0 : 0 ≤ i.Disp ∧ i.Disp ≤ 65535) (h1 : 0 ≤ i.Imm ∧ i.Imm ≤ 65535) (h2 : 0 ≤ i.Sel ∧ i.Sel ≤ 65535) (hm : r.Mod = true → (0 ≤ i.Mod ∧ i.Mod ≤ 3) ∧ (0 ≤ i.Reg ∧ i.Reg ≤ 7) ∧ (0 ≤ i.RM ∧ i.RM ≤ 7)) :
  hansomref05_Put_j24 i r b = some (b ++ ([i.Op] ++ (modL i r ++ behL i (bytI r.A + bytI r.B)))) := by
 unfold hansomref05_Put_j24
 rw [grow_eq (by simp; omega) (by simp; omega), Option.bind_some]
 cases hr : r.Mod with
 | false =>
  simp only [Bool.false_eq_true, if_false]
  rw [put34 i r _ (by simp; omega) h1 h2]
  simp [modL, hr]
 | true =>
  obtain ⟨m1, m2, m3⟩ := hm hr
  have hd := dispI_lo i.Mod i.RM
  simp only [if_true]
  rw [grow_eq (by simp; omega) (by simp; omega), Option.bind_some, two_spec h0.1 h0.2, Option.bind_some, refDisps, Option.bind_some, cutL_eq (by omega) (by omega) (by rw [twoI_len]; omega), Option.bind_some,
   grow_eq (by simp [twoI]; omega) (by simp [twoI]; omega), Option.bind_some, put34 i r _ (by simp [twoI]; omega) h1 h2]
  have e : IntKind.wrap .u8 (IntKind.wrap .i64 (IntKind.wrap .i64 (IntKind.wrap .i64 (64 * i.Mod) + IntKind.wrap .i64 (8 * i.Reg)) + i.RM)) = 64 * i.Mod + 8 * i.Reg + i.RM := by
   rw [wrap64 (n := 64 * i.Mod) (by omega) (by omega), wrap64 (n := 8 * i.Reg) (by omega) (by omega), wrap64 (n := 64 * i.Mod + 8 * i.Reg) (by omega) (by omega), wrap64 (by omega) (by omega), wrap_u8']; omega
  rw [e]
  simp [modL, hr]
theorem refPut (i : Inst) (h : okI i) (hm : mayB i = true) : hansomref05_Put i = some (putL i) := by
 obtain ⟨f1, f2, f3, f4, f5⟩ := mayB_facts i hm
 unfold hansomref05_Put
 rw [refRow i h.1, Option.bind_some]
 have j18 : ∀ (i' : Inst) (b : List Int), b.length ≤ 40 → i'.Seg = i.Seg → i'.Disp = i.Disp → i'.Imm = i.Imm → i'.Sel = i.Sel → i'.Mod = i.Mod → i'.Reg = i.Reg → i'.RM = i.RM → i'.Op = i.Op →
   hansomref05_Put_j18 i' (rowI i.Op i.Reg).1 b = some (b ++ ((if i.Seg > 0 then [30 + 8 * i.Seg] else []) ++ ([i.Op] ++ (modL i (rowI i.Op i.Reg).1 ++ behL i (bytI (rowI i.Op i.Reg).1.A + bytI (rowI i.Op i.Reg).1.B))))) := by
  intro i' b hb e1 e2 e3 e4 e5 e6 e7 e8
  have ml : modL i' (rowI i.Op i.Reg).1 = modL i (rowI i.Op i.Reg).1 := by unfold modL; rw [e5, e6, e7, e2]
  have bl : ∀ m, behL i' m = behL i m := fun m => by unfold behL; rw [e3, e4]
  unfold hansomref05_Put_j18
  by_cases hs : i.Seg > 0
  ·have w : IntKind.wrap .u8 (IntKind.wrap .i64 (30 + IntKind.wrap .i64 (8 * i.Seg))) = 30 + 8 * i.Seg := by
    rw [wrap64 (n := 8 * i.Seg) (by omega) (by omega), wrap64 (by omega) (by omega), wrap_u8']; omega
   simp only [e1, hs, decide_true, if_true, w]
   rw [grow_eq (by simp; omega) (by simp; omega), Option.bind_some, put24 i' _ _ (by simp; omega) (by rw [e2]; exact h.2.1) (by rw [e3]; exact h.2.2.1) (by rw [e4]; exact h.2.2.2) (by rw [e5, e6, e7]; exact f5), ml, bl, e8]
   simp
  ·simp only [e1, hs, decide_false, Bool.false_eq_true, if_false, List.nil_append]
   rw [put24 i' _ _ (by omega) (by rw [e2]; exact h.2.1) (by rw [e3]; exact h.2.2.1) (by rw [e4]; exact h.2.2.2) (by rw [e5, e6, e7]; exact f5), ml, bl, e8]
 have j12 : ∀ (i' : Inst) (b : List Int), b.length ≤ 30 → i'.Rep = i.Rep → i'.Seg = i.Seg → i'.Disp = i.Disp → i'.Imm = i.Imm → i'.Sel = i.Sel → i'.Mod = i.Mod → i'.Reg = i.Reg → i'.RM = i.RM → i'.Op = i.Op →
   hansomref05_Put_j12 i' (rowI i.Op i.Reg).1 b = some (b ++ ((if i.Rep > 0 then [241 + i.Rep] else []) ++ ((if i.Seg > 0 then [30 + 8 * i.Seg] else []) ++ ([i.Op] ++ (modL i (rowI i.Op i.Reg).1 ++ behL i (bytI (rowI i.Op i.Reg).1.A + bytI (rowI i.Op i.Reg).1.B)))))) := by
  intro i' b hb e0 e1 e2 e3 e4 e5 e6 e7 e8
  unfold hansomref05_Put_j12
  by_cases hs : i.Rep > 0
  ·have w : IntKind.wrap .u8 (IntKind.wrap .i64 (241 + i.Rep)) = 241 + i.Rep := by rw [wrap64 (by omega) (by omega), wrap_u8']; omega
   simp only [e0, hs, decide_true, if_true, w]
   rw [grow_eq (by simp; omega) (by simp; omega), Option.bind_some, j18 i' _ (by simp; omega) e1 e2 e3 e4 e5 e6 e7 e8]
   simp
  ·simp only [e0, hs, decide_false, Bool.false_eq_true, if_false, List.nil_append]
   rw [j18 i' _ (by omega) e1 e2 e3 e4 e5 e6 e7 e8]
 unfold putL aheadL
 cases hl : i.Lock with
 | false =>
  simp only [Bool.false_eq_true, if_false, List.nil_append]
  rw [j12 ⟨false, i.Rep, i.Seg, i.Op, i.Mod, i.Reg, i.RM, i.Disp, i.Imm, i.Sel⟩ [] (by simp) rfl rfl rfl rfl rfl rfl rfl rfl rfl]
  simp
 | true =>
  simp only [if_true]
  rw [grow_eq (by simp) (by simp), Option.bind_some, j12 ⟨true, i.Rep, i.Seg, i.Op, i.Mod, i.Reg, i.RM, i.Disp, i.Imm, i.Sel⟩ _ (by simp) rfl rfl rfl rfl rfl rfl rfl rfl rfl]
  simp
def NearOk (r : Option Inst) : Prop := ∃ y, r = some y ∧ okI y ∧ mayB y = true
theorem near100 (x i : Inst) (h : okI i) : NearOk (hansomref05_Near_j100 x i) := by
 unfold hansomref05_Near_j100
 have h' : okI ⟨i.Lock, i.Rep, bitsOp .and .i64 x.Seg 7, i.Op, i.Mod, i.Reg, i.RM, i.Disp, i.Imm, i.Sel⟩ := h
 rw [refMay i h, refMay _ h']
 split
 ·rw [Option.bind_some]
  split
  ·exact ⟨_, rfl, i144⟩
  ·rename_i hm; exact ⟨_, rfl, h', by simpa using hm⟩
 ·rw [Option.bind_some]
  split
  ·exact ⟨_, rfl, i144⟩
  ·rename_i hm; exact ⟨_, rfl, h, by simpa using hm⟩
theorem near86 (x i : Inst) (r : Row) (h : okI i) : NearOk (hansomref05_Near_j86 x i r) := by
 unfold hansomref05_Near_j86
 rw [refRep, Option.bind_some]
 repeat' split
 all_goals exact near100 _ _ h
theorem near79 (x i : Inst) (r : Row) (k : Int) (t : Bool) (h : okI i) (hx : okI x) : NearOk (hansomref05_Near_j79 x i r k t) := by
 unfold hansomref05_Near_j79
 repeat' split
 ·exact near86 _ _ _ ⟨h.1, h.2.1, hx.2.2.1, h.2.2.2⟩
 ·exact near86 _ _ _ ⟨h.1, h.2.1, hx.2.2.1, hx.2.2.2⟩
 ·exact near86 _ _ _ h
theorem refSign {b : Int} (h0 : 0 ≤ b) (h1 : b ≤ 255) : hansomref01_Sign b = some (sgn b) := by
 have : ∀ n : Fin 256, hansomref01_Sign (n.val : Int) = some (sgn (n.val : Int)) := by decide +kernel
 have := this ⟨b.toNat, by omega⟩
 simp only at this
 rw [Int.toNat_of_nonneg h0] at this
 exact this
theorem sgn_lo {b : Int} (h0 : 0 ≤ b) (h1 : b ≤ 255) : 0 ≤ sgn b ∧ sgn b ≤ 65535 := by unfold sgn; split <;> omega
theorem low_lo {w : Int} (h0 : 0 ≤ w) : 0 ≤ IntKind.wrap .u8 (Int.tmod w 256) ∧ IntKind.wrap .u8 (Int.tmod w 256) ≤ 255 := by rw [wrap_u8']; omega
theorem near63 (x i : Inst) (r : Row) (k : Int) (t : Bool) (h : okI i) (hx : okI x) : NearOk (hansomref05_Near_j63 x i r k t) := by
 unfold hansomref05_Near_j63
 obtain ⟨l0, l1⟩ := low_lo hx.2.2.1.1
 rw [refSign l0 l1, Option.bind_some]
 repeat' split
 ·exact near86 _ _ _ ⟨h.1, h.2.1, sgn_lo l0 l1, h.2.2.2⟩
 all_goals exact near79 _ _ _ _ _ h hx
theorem near43 (x i : Inst) (r : Row) (k : Int) (h : okI i) (hx : okI x) : NearOk (hansomref05_Near_j43 x i r k) := by
 unfold hansomref05_Near_j43
 repeat' split
 ·exact near86 _ _ _ ⟨h.1, h.2.1, by simp, h.2.2.2⟩
 ·exact near86 _ _ _ ⟨h.1, h.2.1, by simp, h.2.2.2⟩
 ·refine near86 _ _ _ ⟨h.1, h.2.1, ?_, h.2.2.2⟩
  have := hx.2.2.1
  simp only
  rw [Int.tmod_eq_emod_of_nonneg this.1]; omega
 all_goals exact near63 _ _ _ _ _ h hx
theorem near35 (x i : Inst) (r : Row) (h : okI i) (hx : okI x) : NearOk (hansomref05_Near_j35 x i r) := by
 unfold hansomref05_Near_j35
 rw [bytes_spec, Option.bind_some]
 split
 ·exact near43 _ _ _ _ h hx
 ·exact near43 _ _ _ _ h hx
theorem near_spec (x : Inst) (hx : okI x) : NearOk (hansomref05_Near x) := by
 unfold hansomref05_Near
 rw [refRow _ (by exact hx.1), Option.bind_some]
 split
 ·exact ⟨_, rfl, i144⟩
 ·split
  ·exact near35 _ _ _ ⟨hx.1, by simp, by simp, by simp⟩ hx
  ·obtain ⟨l0, l1⟩ := low_lo hx.2.1.1
   rw [refDisps, Option.bind_some, refSign l0 l1, Option.bind_some]
   repeat' split
   ·exact near35 _ _ _ ⟨hx.1, sgn_lo l0 l1, by simp, by simp⟩ hx
   ·exact near35 _ _ _ ⟨hx.1, hx.2.1, by simp, by simp⟩ hx
   ·exact near35 _ _ _ ⟨hx.1, by simp, by simp, by simp⟩ hx
theorem okI_wf {x : Inst} (h : Inst.wf x) : okI x := ⟨wfI_u8.1 h.2.2.2.1, wfI_u16.1 h.2.2.2.2.2.2.2.1, wfI_u16.1 h.2.2.2.2.2.2.2.2.1, wfI_u16.1 h.2.2.2.2.2.2.2.2.2⟩
theorem or_u16 {x y : Int} (j : Nat) (a : Nat) (hx : x = ((2 ^ j * a : Nat) : Int)) (hb : 2 ^ j * a + 2 ^ j ≤ 2 ^ 16) (h0 : 0 ≤ y) (h1 : y < (2 ^ j : Nat)) : bitsOp .or .u16 y x = y + x := by
 have e : bitsOp .or .u16 y x = IntKind.wrap .u16 (((BitVec.ofInt 16 y ||| BitVec.ofInt 16 x).toNat : Nat) : Int) := rfl
 have e1 : (BitVec.ofInt 16 x).toNat = 2 ^ j * a := by rw [BitVec.toNat_ofInt]; omega
 have e2 : (BitVec.ofInt 16 y).toNat = y.toNat := by rw [BitVec.toNat_ofInt]; omega
 have h2 : y.toNat < 2 ^ j := by omega
 rw [e, BitVec.toNat_or, e1, e2, Nat.or_comm, ← Nat.two_pow_add_eq_or_of_lt h2, wrapu16 (by omega) (by omega)]
 omega
theorem bits_Word_spec {l h : Int} (l0 : 0 ≤ l) (l1 : l ≤ 255) (h0 : 0 ≤ h) (h1 : h ≤ 255) : bits_Word l h = some (l + h * 256) := by
 unfold bits_Word
 have e : shlI .u16 (IntKind.wrap .u16 h) 8 = h * 256 := by
  rw [wrapu16 (by omega) (by omega)]
  show IntKind.wrap .u16 (h * 256) = _
  exact wrapu16 (by omega) (by omega)
 rw [e, wrapu16 (n := l) (by omega) (by omega), or_u16 8 h.toNat (by omega) (by omega) l0 (by omega)]
inductive Rd' (α : Type) where
 | ok (a : α) (r : List Int)
 | die (e : Int)
def Rd'.bind {α β : Type} (x : Rd' α) (k : α → List Int → Rd' β) : Rd' β := match x with
 | .ok a r => k a r
 | .die e => .die e
def nextR : List Int → Rd' Int
 | [] => .die 2
 | c :: r => .ok c r
def wordR (l : List Int) : Rd' Int := (nextR l).bind fun a r => (nextR r).bind fun b r => .ok (a + b * 256) r
def aheadR : List Int → Inst → Rd' (Int × Inst)
 | [], _ => .die 2
 | c :: l, i => if isP c.toNat = true then
   (if c = 240 ∧ i.Lock = false then aheadR l { i with Lock := true }
    else if 242 ≤ c ∧ i.Rep = 0 then aheadR l { i with Rep := c - 241 }
    else if c < 240 ∧ i.Seg = 0 then aheadR l { i with Seg := (c - 38) / 8 + 1 }
    else .die 3)
  else .ok (c, i) l
def modI (i : Inst) (c : Int) : Inst := { i with Mod := c / 64, Reg := c / 8 % 8, RM := c % 8 }
def secondR (l : List Int) (i : Inst) : Rd' Inst := (nextR l).bind fun c r =>
 if dispI (c / 64) (c % 8) == 1 then (nextR r).bind fun d r => .ok { modI i c with Disp := sgn d } r
 else if dispI (c / 64) (c % 8) == 2 then (wordR r).bind fun w r => .ok { modI i c with Disp := w } r
 else .ok (modI i c) r
def immN (r : Row) : Int := bytI r.A + bytI r.B
def behR (l : List Int) (i : Inst) (w : Row) : Rd' Inst :=
 if immN w == 1 then (nextR l).bind fun c r => .ok { i with Imm := if w.A == 9 then sgn c else if w.B == 8 then sgn c else c } r
 else if immN w == 2 then (wordR l).bind fun x r => .ok { i with Imm := x } r
 else if immN w == 4 then (wordR l).bind fun x r => (wordR r).bind fun y r => .ok { i with Imm := x, Sel := y } r
 else .ok i l
def twoB (op : Nat) : Bool := (List.range 8).any fun k => (rw' (look op k)).1.Mod && (rw' (look op k)).2
def endR (l : List Int) (i : Inst) : Rd' Inst :=
 if !(rw' (look i.Op.toNat (i.Reg % 8).toNat)).2 then .die 3 else (behR l i (rw' (look i.Op.toNat (i.Reg % 8).toNat)).1).bind fun i r => if !mayB i then .die 3 else .ok i r
def takeR (l : List Int) : Rd' Inst := (aheadR l inst0).bind fun x r => if twoB x.1.toNat then (secondR r { x.2 with Op := x.1 }).bind fun i r => endR r i else endR r { x.2 with Op := x.1 }
def By (l : List Int) : Prop := ∀ x ∈ l, 0 ≤ x ∧ x ≤ 255
theorem By.tail {m r : List Int} (h : By (m ++ r)) : By r := fun x hx => h x (List.mem_append_right _ hx)
def Src (pre l : List Int) : Source := { b := pre ++ l, at_ := (pre.length : Int) }
def Rel {α γ : Type} (mk : α → Source → γ) (pre l : List Int) (x : Rd' α) (f : Option γ) (fD : Option Int) : Prop := match x with
 | .ok a r => (∃ mid, l = mid ++ r ∧ f = some (mk a (Src (pre ++ mid) r))) ∧ fD = none
 | .die e => f = none ∧ fD = some e
theorem Rel.pure {α γ : Type} {mk : α → Source → γ} {pre l : List Int} {a : α} {f : Option γ} (h : f = some (mk a (Src pre l))) : Rel mk pre l (.ok a l) f none := ⟨⟨[], rfl, by rw [List.append_nil]; exact h⟩, rfl⟩
theorem Rel.bind {α β γ δ : Type} {mk : α → Source → γ} {mk2 : β → Source → δ} {pre l : List Int} {x : Rd' α} {f : Option γ} {fD : Option Int} (h : Rel mk pre l x f fD) {k : α → List Int → Rd' β} {g : γ → Option δ} {gD : γ → Option Int}
  (hk : ∀ a mid r, l = mid ++ r → x = .ok a r → Rel mk2 (pre ++ mid) r (k a r) (g (mk a (Src (pre ++ mid) r))) (gD (mk a (Src (pre ++ mid) r)))) : Rel mk2 pre l (x.bind k) (f.bind g) (orD fD (f.bind gD)) := by
 cases x with
 | die e => obtain ⟨h1, h2⟩ := h; rw [h1, h2]; exact ⟨rfl, rfl⟩
 | ok a r =>
  obtain ⟨⟨mid, hl, hf⟩, hd⟩ := h
  have := hk a mid r hl rfl
  rw [hf, hd]
  show Rel mk2 pre l (k a r) (g _) (gD _)
  cases hx : k a r with
  | die e => rw [hx] at this; exact this
  | ok b r2 =>
   rw [hx] at this
   obtain ⟨⟨mid2, hl2, hf2⟩, hd2⟩ := this
   exact ⟨⟨mid ++ mid2, by rw [hl, hl2, List.append_assoc], by rw [hf2, List.append_assoc]⟩, hd2⟩
def mkP {α : Type} : α → Source → α × Source := fun a s => (a, s)
theorem next_rel (pre l : List Int) (h : (pre ++ l).length ≤ 100000) : Rel mkP pre l (nextR l) (scan_source_next (Src pre l)) (scan_source_next_D (Src pre l)) := by
 unfold scan_source_next scan_source_next_D
 cases l with
 | nil =>
  have e : decide ((Src pre []).at_ ≥ ((Src pre []).b.length : Int)) = true := by simp [Src]
  rw [e]
  exact ⟨rfl, rfl⟩
 | cons c r =>
  have e : decide ((Src pre (c :: r)).at_ ≥ ((Src pre (c :: r)).b.length : Int)) = false := by simp [Src]; omega
  have e2 : idx (Src pre (c :: r)).b (Src pre (c :: r)).at_ = some c := by
   show idx (pre ++ c :: r) (pre.length : Int) = some c
   rw [idx_nat (by simp)]; simp
  rw [e, e2]
  refine ⟨⟨[c], rfl, ?_⟩, rfl⟩
  simp only [Bool.false_eq_true, if_false, Option.bind_some]
  have e3 : IntKind.wrap .i64 ((Src pre (c :: r)).at_ + 1) = ((pre ++ [c]).length : Int) := by
   simp only [List.length_append, List.length_cons, List.length_nil] at h ⊢
   show IntKind.wrap .i64 ((pre.length : Int) + 1) = _
   rw [wrap64 (by omega) (by omega)]; omega
  rw [e3]
  simp [mkP, Src]
theorem By.cons {c : Int} {r : List Int} (h : By (c :: r)) : (0 ≤ c ∧ c ≤ 255) ∧ By r := ⟨h c (by simp), fun x hx => h x (by simp [hx])⟩
theorem nextR_ok {l r : List Int} {a : Int} (h : nextR l = .ok a r) : l = a :: r := by
 cases l with
 | nil => cases h
 | cons c r' => cases h; rfl
theorem word_rel (pre l : List Int) (h : (pre ++ l).length ≤ 100000) (hb : By l) : Rel mkP pre l (wordR l) (scan_source_word (Src pre l)) (scan_source_word_D (Src pre l)) := by
 unfold scan_source_word scan_source_word_D wordR
 refine Rel.bind (next_rel pre l h) fun a mid r hl hx => ?_
 have e1 := nextR_ok hx
 refine Rel.bind (next_rel (pre ++ mid) r (by rw [List.append_assoc, ← hl]; exact h)) fun b mid2 r2 hl2 hx2 => ?_
 have e2 := nextR_ok hx2
 subst e1 e2
 have b1 := hb.cons; have b2 := b1.2.cons
 show Rel mkP _ _ _ ((bits_Word a b).bind _) ((bits_Word a b).bind _)
 rw [bits_Word_spec b1.1.1 b1.1.2 b2.1.1 b2.1.2]
 exact Rel.pure rfl
theorem wordR_ok {l r : List Int} {x : Int} (h : wordR l = .ok x r) : ∃ a b, l = a :: b :: r ∧ x = a + b * 256 := by
 unfold wordR at h
 match l, h with
 | a :: b :: r', h => cases h; exact ⟨a, b, rfl, rfl⟩
theorem isPre {c : Int} (h0 : 0 ≤ c) (h1 : c ≤ 255) : isa_Prefix c = some (isP c.toNat) := by
 have := prefix_lit ⟨c.toNat, by omega⟩
 simp only at this
 rw [← this]
 congr 1; omega
theorem isP_val {c : Int} (h0 : 0 ≤ c) (h : isP c.toNat = true) : c = 38 ∨ c = 46 ∨ c = 54 ∨ c = 62 ∨ c = 240 ∨ c = 242 ∨ c = 243 := by
 simp only [isP, Bool.or_eq_true, beq_iff_eq] at h
 omega
theorem seg_val {c : Int} (h : c = 38 ∨ c = 46 ∨ c = 54 ∨ c = 62) : IntKind.wrap .i64 ((shrI .i64 (IntKind.wrap .i64 (IntKind.wrap .u8 (c - 38))) 3) + 1) = (c - 38) / 8 + 1 := by
 rcases h with rfl | rfl | rfl | rfl <;> decide
theorem rep_val {c : Int} (h : c = 242 ∨ c = 243) : IntKind.wrap .i64 (IntKind.wrap .u8 (c - 241)) = c - 241 := by
 rcases h with rfl | rfl <;> decide
def mkA : Int × Inst → Source → Int × Source × Inst := fun x s => (x.1, s, x.2)
theorem ahead_loop : ∀ (l pre : List Int) (i : Inst), (pre ++ l).length ≤ 100000 → By l →
  Rel mkA pre l (aheadR l i) (loopO (fun x : (Source × Inst) => scan_source_ahead_l3 x.1 x.2) (Src pre l, i)) (loopO (fun x : (Source × Inst) => scan_source_ahead_D_l3 x.1 x.2) (Src pre l, i))
 | [], pre, i, h, _ => by
  have hn := next_rel pre [] h
  obtain ⟨h1, h2⟩ := hn
  rw [loopO_eq, loopO_eq]
  simp only [scan_source_ahead_l3, scan_source_ahead_D_l3, h1, h2]
  exact ⟨rfl, rfl⟩
 | c :: l, pre, i, h, hb => by
  obtain ⟨hc, hl⟩ := hb.cons
  obtain ⟨⟨mid, hm, h1⟩, h2⟩ := next_rel pre (c :: l) h
  have hmid : mid = [c] := by
   have := congrArg List.length hm
   simp only [List.length_cons, List.length_append] at this
   match mid, hm, this with
   | [x], hm, _ => cases hm; rfl
   | [], _, h => simp at h
   | _ :: _ :: _, _, h => simp at h; omega
  subst hmid
  have h' : (pre ++ [c] ++ l).length ≤ 100000 := by rw [List.append_assoc]; exact h
  rw [loopO_eq, loopO_eq]
  simp only [scan_source_ahead_l3, scan_source_ahead_D_l3, h1, h2, orL, Option.bind_some, mkP, isPre hc.1 hc.2, aheadR]
  have step : ∀ j : Inst, Rel mkA pre (c :: l) (aheadR l j) (loopO (fun x : (Source × Inst) => scan_source_ahead_l3 x.1 x.2) (Src (pre ++ [c]) l, j)) (loopO (fun x : (Source × Inst) => scan_source_ahead_D_l3 x.1 x.2) (Src (pre ++ [c]) l, j)) := fun j => by
   have := ahead_loop l (pre ++ [c]) j h' hl
   cases hx : aheadR l j with
   | die e => rw [hx] at this; exact this
   | ok a r =>
    rw [hx] at this
    obtain ⟨⟨mid, hm, hf⟩, hd⟩ := this
    exact ⟨⟨[c] ++ mid, by rw [hm]; rfl, by rw [hf, List.append_assoc]⟩, hd⟩
  cases hp : isP c.toNat with
  | false =>
   simp only [Bool.not_false, if_true, Option.bind_some, Bool.false_eq_true, if_false, Option.bind_none]
   exact ⟨⟨[c], rfl, rfl⟩, rfl⟩
  | true =>
   have hv := isP_val hc.1 hp
   simp only [Bool.not_true, Bool.false_eq_true, if_false, if_true, scan_source_ahead_j16, scan_source_ahead_D_j16, scan_source_ahead_j20, scan_source_ahead_D_j20]
   by_cases c240 : c = 240
   ·subst c240
    cases hL : i.Lock with
    | false =>
     simp only [beq_self_eq_true, if_true, Bool.not_false, Option.bind_some, and_self]
     exact step _
    | true =>
     simp
     exact ⟨rfl, rfl⟩
   ·have e1 : (c == 240) = false := by simp [c240]
    simp only [e1, Bool.false_eq_true, if_false, c240, false_and]
    by_cases c242 : 242 ≤ c
    ·have e2 : decide (c ≥ 242) = true := by simp [c242]
     have e3 : decide (c < 240) = false := by simp; omega
     simp only [e2, if_true, c242, true_and, e3, Bool.false_eq_true, if_false]
     by_cases hR : i.Rep = 0
     ·simp only [hR, beq_self_eq_true, if_true, Option.bind_some, rep_val (c := c) (by omega)]
      exact step _
     ·have e4 : (i.Rep == 0) = false := by simp [hR]
      have e5 : ¬ c < 240 := by omega
      simp only [e4, Bool.false_eq_true, if_false, hR, e5, false_and, Option.bind_none, Option.bind_some]
      exact ⟨rfl, rfl⟩
    ·have e2 : decide (c ≥ 242) = false := by simp; omega
     have e3 : decide (c < 240) = true := by simp; omega
     have e6 : c < 240 := by omega
     simp only [e2, Bool.false_eq_true, if_false, c242, false_and, e3, if_true, e6, true_and]
     by_cases hS : i.Seg = 0
     ·simp only [hS, beq_self_eq_true, if_true, Option.bind_some, seg_val (c := c) (by omega)]
      exact step _
     ·have e4 : (i.Seg == 0) = false := by simp [hS]
      simp only [e4, Bool.false_eq_true, if_false, hS, Option.bind_none, Option.bind_some]
      exact ⟨rfl, rfl⟩
theorem ahead_rel (pre l : List Int) (i : Inst) (h : (pre ++ l).length ≤ 100000) (hb : By l) : Rel mkA pre l (aheadR l i) (scan_source_ahead (Src pre l) i) (scan_source_ahead_D (Src pre l) i) := by
 have := ahead_loop l pre i h hb
 unfold scan_source_ahead scan_source_ahead_D
 have e : ∀ o : Option (Int × Source × Inst), (o.bind fun e_1 => some e_1) = o := fun o => by cases o <;> rfl
 rw [e]
 exact this
theorem shr6 (c : Int) : shrI .i64 c 6 = c / 64 := shr_eq (j := 6) (by decide)
theorem shr3 (c : Int) : shrI .i64 c 3 = c / 8 := shr_eq (j := 3) (by decide)
theorem and7 (c : Int) : bitsOp .and .i64 c 7 = c % 8 := and_mask c 3 (by omega)
def mkI : Inst → Source → Inst × Source := fun a s => (a, s)
theorem second_rel (pre l : List Int) (i : Inst) (h : (pre ++ l).length ≤ 100000) (hb : By l) : Rel mkI pre l (secondR l i) (scan_source_second (Src pre l) i) (scan_source_second_D (Src pre l) i) := by
 unfold scan_source_second scan_source_second_D secondR
 refine Rel.bind (next_rel pre l h) fun c mid r hl hx => ?_
 have e1 := nextR_ok hx
 have h' : (pre ++ mid ++ r).length ≤ 100000 := by rw [List.append_assoc, ← hl]; exact h
 subst e1
 have hc := hb.cons.1; have hr := hb.cons.2
 simp only [mkP, wrap64 (n := c) (by omega) (by omega), shr6, and7, shr3, instDisps, Option.bind_some]
 by_cases d1 : (dispI (c / 64) (c % 8) == 1) = true
 ·rw [if_pos d1, if_pos d1, if_pos d1]
  refine Rel.bind (next_rel _ r h') fun d mid2 r2 hl2 hx2 => ?_
  have e2 := nextR_ok hx2
  subst e2
  have hd := hr.cons.1
  simp only [mkP, bitsSign hd.1 hd.2, Option.bind_some]
  exact Rel.pure rfl
 ·rw [if_neg d1, if_neg d1, if_neg d1]
  by_cases d2 : (dispI (c / 64) (c % 8) == 2) = true
  ·rw [if_pos d2, if_pos d2, if_pos d2]
   refine Rel.bind (word_rel _ r h' hr) fun d mid2 r2 hl2 hx2 => ?_
   exact Rel.pure rfl
  ·rw [if_neg d2, if_neg d2, if_neg d2]
   exact Rel.pure rfl
theorem low16 {c : Int} (h0 : 0 ≤ c) (h1 : c ≤ 255) : bits_Low c = some c := by
 unfold bits_Low; rw [wrapu8 (by omega) (by omega)]
theorem beh_rel (pre l : List Int) (i : Inst) (w : Row) (h : (pre ++ l).length ≤ 100000) (hb : By l) : Rel mkI pre l (behR l i w) (scan_source_behind (Src pre l) i w) (scan_source_behind_D (Src pre l) i w) := by
 unfold scan_source_behind scan_source_behind_D behR
 rw [imms_spec, Option.bind_some, Option.bind_some]
 show Rel mkI pre l _ (if (immN w == 1) = true then _ else _) (if (immN w == 1) = true then _ else _)
 by_cases d1 : (immN w == 1) = true
 ·rw [if_pos d1, if_pos d1, if_pos d1]
  refine Rel.bind (next_rel pre l h) fun c mid r hl hx => ?_
  have e1 := nextR_ok hx
  subst e1
  have hc := hb.cons.1
  simp only [mkP, wrapu16 (n := c) (by omega) (by omega), low16 hc.1 hc.2, bitsSign hc.1 hc.2, Option.bind_some]
  by_cases a9 : (w.A == 9) = true
  ·simp only [a9, if_true]; exact Rel.pure rfl
  ·by_cases b8 : (w.B == 8) = true
   ·simp only [a9, b8, if_true, Bool.false_eq_true, if_false]; exact Rel.pure rfl
   ·simp only [a9, b8, Bool.false_eq_true, if_false]; exact Rel.pure rfl
 ·rw [if_neg d1, if_neg d1, if_neg d1]
  show Rel mkI pre l _ (if (immN w == 2) = true then _ else _) (if (immN w == 2) = true then _ else _)
  by_cases d2 : (immN w == 2) = true
  ·rw [if_pos d2, if_pos d2, if_pos d2]
   exact Rel.bind (word_rel pre l h hb) fun x mid r hl hx => Rel.pure rfl
  ·rw [if_neg d2, if_neg d2, if_neg d2]
   show Rel mkI pre l _ (if (immN w == 4) = true then _ else _) (if (immN w == 4) = true then _ else _)
   by_cases d4 : (immN w == 4) = true
   ·rw [if_pos d4, if_pos d4, if_pos d4]
    refine Rel.bind (word_rel pre l h hb) fun x mid r hl hx => ?_
    have h' : (pre ++ mid ++ r).length ≤ 100000 := by rw [List.append_assoc, ← hl]; exact h
    exact Rel.bind (word_rel _ r h' (by rw [hl] at hb; exact hb.tail)) fun y mid2 r2 hl2 hx2 => Rel.pure rfl
   ·rw [if_neg d4, if_neg d4, if_neg d4]
    exact Rel.pure rfl
theorem two_iter : ∀ op : Fin 256, iterO (isa_Two_l6 (op.val : Int)) 10 0 = some (if twoB op.val then .inl true else .inr ()) := by decide +kernel
theorem two_spec' {c : Int} (h0 : 0 ≤ c) (h1 : c ≤ 255) : isa_Two c = some (twoB c.toNat) := by
 unfold isa_Two
 have := loopO_iter (two_iter ⟨c.toNat, by omega⟩)
 have e : ((c.toNat : Nat) : Int) = c := by omega
 simp only [e] at this
 show (loopO (isa_Two_l6 c) 0).bind _ = _
 rw [this, Option.bind_some]
 cases twoB c.toNat <;> rfl
theorem ofI {c reg : Int} (h0 : 0 ≤ c) (h1 : c ≤ 255) : isa_Of c reg = some (rw' (look c.toNat (reg % 8).toNat)) := by
 have := of_spec c.toNat (by omega) reg
 rw [← this]; congr 1; omega
theorem wordR_lo {l r : List Int} {x : Int} (hb : By l) (h : wordR l = .ok x r) : 0 ≤ x ∧ x ≤ 65535 ∧ By r := by
 obtain ⟨a, b, hl, hx⟩ := wordR_ok h
 subst hl
 have h1 := hb.cons; have h2 := h1.2.cons
 exact ⟨by omega, by omega, h2.2⟩
theorem behR_ok {l r : List Int} {i j : Inst} {w : Row} (hb : By l) (ho : okI i) (h : behR l i w = .ok j r) : okI j ∧ By r := by
 unfold behR at h
 split at h
 ·match l, h with
  | c :: l', h =>
   cases h
   have hc := hb.cons
   refine ⟨⟨ho.1, ho.2.1, ?_, ho.2.2.2⟩, hc.2⟩
   have := sgn_lo hc.1.1 hc.1.2
   show 0 ≤ (if (w.A == 9) = true then sgn c else if (w.B == 8) = true then sgn c else c) ∧ (if (w.A == 9) = true then sgn c else if (w.B == 8) = true then sgn c else c) ≤ 65535
   split
   ·exact this
   ·split
    ·exact this
    ·omega
 ·split at h
  ·cases hx : wordR l with
   | die e => rw [hx] at h; cases h
   | ok x r' =>
    rw [hx] at h; cases h
    obtain ⟨h1, h2, h3⟩ := wordR_lo hb hx
    exact ⟨⟨ho.1, ho.2.1, ⟨h1, h2⟩, ho.2.2.2⟩, h3⟩
  ·split at h
   ·cases hx : wordR l with
    | die e => rw [hx] at h; cases h
    | ok x r' =>
     obtain ⟨h1, h2, h3⟩ := wordR_lo hb hx
     rw [hx] at h
     simp only [Rd'.bind] at h
     cases hy : wordR r' with
     | die e => rw [hy] at h; cases h
     | ok y r2 =>
      rw [hy] at h; cases h
      obtain ⟨h4, h5, h6⟩ := wordR_lo h3 hy
      exact ⟨⟨ho.1, ho.2.1, ⟨h1, h2⟩, ⟨h4, h5⟩⟩, h6⟩
   ·cases h; exact ⟨ho, hb⟩
theorem secondR_ok {l r : List Int} {i j : Inst} (hb : By l) (ho : okI i) (h : secondR l i = .ok j r) : okI j ∧ By r ∧ j.Op = i.Op := by
 unfold secondR at h
 match l, h with
 | c :: l', h =>
  have hc := hb.cons
  simp only [nextR, Rd'.bind] at h
  split at h
  ·match l', h with
   | d :: l2, h =>
    cases h
    have hd := hc.2.cons
    exact ⟨⟨ho.1, sgn_lo hd.1.1 hd.1.2, ho.2.2.1, ho.2.2.2⟩, hd.2, rfl⟩
  ·split at h
   ·cases hx : wordR l' with
    | die e => rw [hx] at h; cases h
    | ok x r' =>
     rw [hx] at h; cases h
     obtain ⟨h1, h2, h3⟩ := wordR_lo hc.2 hx
     exact ⟨⟨ho.1, ⟨h1, h2⟩, ho.2.2.1, ho.2.2.2⟩, h3, rfl⟩
   ·cases h; exact ⟨⟨ho.1, ho.2.1, ho.2.2.1, ho.2.2.2⟩, hc.2, rfl⟩
theorem aheadR_ok : ∀ {l r : List Int} {i j : Inst} {c : Int}, By l → okI i → aheadR l i = .ok (c, j) r → okI j ∧ (0 ≤ c ∧ c ≤ 255) ∧ By r
 | [], r, i, j, c, hb, ho, h => by cases h
 | x :: l, r, i, j, c, hb, ho, h => by
  have hc := hb.cons
  unfold aheadR at h
  split at h
  ·split at h
   ·exact aheadR_ok (i := { i with Lock := true }) hc.2 ho h
   ·split at h
    ·exact aheadR_ok (i := { i with Rep := x - 241 }) hc.2 ho h
    ·split at h
     ·exact aheadR_ok (i := { i with Seg := (x - 38) / 8 + 1 }) hc.2 ho h
     ·cases h
  ·cases h; exact ⟨ho, hc.1, hc.2⟩
theorem end_rel (pre l : List Int) (i z : Inst) (ho : okI i) (h : (pre ++ l).length ≤ 100000) (hb : By l) : Rel mkI pre l (endR l i) (scan_source_take_j12 (Src pre l) z i) (scan_source_take_D_j12 (Src pre l) z i) := by
 unfold scan_source_take_j12 scan_source_take_D_j12 endR
 rw [ofI ho.1.1 ho.1.2, Option.bind_some, Option.bind_some]
 cases hk : (rw' (look i.Op.toNat (i.Reg % 8).toNat)).2 with
 | false => exact ⟨rfl, rfl⟩
 | true =>
  simp only [Bool.not_true, Bool.false_eq_true, if_false]
  refine Rel.bind (beh_rel pre l i _ h hb) fun j mid r hl hx => ?_
  have hj := behR_ok hb ho hx
  simp only [mkI, instMay j hj.1, Option.bind_some]
  cases hm : mayB j with
  | false => exact ⟨rfl, rfl⟩
  | true => exact Rel.pure rfl
theorem ok0 : okI inst0 := by refine ⟨⟨?_, ?_⟩, ⟨?_, ?_⟩, ⟨?_, ?_⟩, ⟨?_, ?_⟩⟩ <;> decide
theorem take_rel (l : List Int) (h : l.length ≤ 100000) (hb : By l) : Rel mkI [] l (takeR l) (scan_source_take { b := l, at_ := 0 }) (scan_source_take_D { b := l, at_ := 0 }) := by
 unfold scan_source_take scan_source_take_D takeR
 refine Rel.bind (ahead_rel [] l inst0 h hb) fun x mid r hl hx => ?_
 obtain ⟨c, j⟩ := x
 obtain ⟨h1, h2, h3⟩ := aheadR_ok hb ok0 hx
 have hj : okI { j with Op := c } := ⟨h2, h1.2.1, h1.2.2.1, h1.2.2.2⟩
 have h' : (([] : List Int) ++ mid ++ r).length ≤ 100000 := by rw [List.append_assoc, ← hl]; exact h
 simp only [mkA, two_spec' h2.1 h2.2, Option.bind_some]
 cases ht : twoB c.toNat with
 | true =>
  simp only [if_true]
  refine Rel.bind (second_rel _ r _ h' h3) fun i mid2 r2 hl2 hx2 => ?_
  obtain ⟨h4, h5, h6⟩ := secondR_ok h3 hj hx2
  exact end_rel _ r2 i _ h4 (by rw [List.append_assoc, ← hl2]; exact h') h5
 | false =>
  simp only [Bool.false_eq_true, if_false]
  exact end_rel _ r _ _ hj h' h3
theorem get_spec (l : List Int) (h : l.length ≤ 100000) (hb : By l) : scan_Get l = some (match takeR l with | .ok i r => (i, ((l.length - r.length : Nat) : Int), 0) | .die e => (inst0, 0, e)) := by
 have := take_rel l h hb
 unfold scan_Get
 cases ht : takeR l with
 | die e =>
  rw [ht] at this
  obtain ⟨h1, h2⟩ := this
  rw [h1, h2]; rfl
 | ok i r =>
  rw [ht] at this
  obtain ⟨⟨mid, hl, hf⟩, _⟩ := this
  rw [hf]
  simp only [mkI, Src, List.nil_append]
  rw [hl]
  simp
theorem tbl2 : ∀ op : Fin 256, ∀ k : Fin 8, (rw' (look op.val k.val)).2 = true → (rw' (look op.val k.val)).1.Mod = twoB op.val := by decide +kernel
theorem tbl3 : ∀ op : Fin 256, ∀ k : Fin 8, ((rw' (look op.val k.val)).1.A != 8 && (rw' (look op.val k.val)).1.B != 9 && (bytI (rw' (look op.val k.val)).1.A == 0 || bytI (rw' (look op.val k.val)).1.B == 0)) = true := by decide +kernel
theorem row_of {i : Inst} (ho : okI i) (hm : mayB i = true) : isP i.Op.toNat = false ∧ rowI i.Op i.Reg = rw' (look i.Op.toNat (i.Reg % 8).toNat) ∧ (rw' (look i.Op.toNat (i.Reg % 8).toNat)).2 = true := by
 have h := (mayB_facts i hm).1
 unfold rowI at h ⊢
 cases hp : isP i.Op.toNat with
 | true => rw [hp] at h; simp at h
 | false => rw [hp] at h; exact ⟨rfl, rfl, h⟩
theorem mod_two {i : Inst} (ho : 0 ≤ i.Op ∧ i.Op ≤ 255) (h : (rw' (look i.Op.toNat (i.Reg % 8).toNat)).2 = true) : (rw' (look i.Op.toNat (i.Reg % 8).toNat)).1.Mod = twoB i.Op.toNat :=
 tbl2 ⟨i.Op.toNat, by omega⟩ ⟨(i.Reg % 8).toNat, by omega⟩ h
theorem row3 {i : Inst} (ho : 0 ≤ i.Op ∧ i.Op ≤ 255) : (rw' (look i.Op.toNat (i.Reg % 8).toNat)).1.A ≠ 8 ∧ (rw' (look i.Op.toNat (i.Reg % 8).toNat)).1.B ≠ 9 ∧ (bytI (rw' (look i.Op.toNat (i.Reg % 8).toNat)).1.A = 0 ∨ bytI (rw' (look i.Op.toNat (i.Reg % 8).toNat)).1.B = 0) := by
 have := tbl3 ⟨i.Op.toNat, by omega⟩ ⟨(i.Reg % 8).toNat, by omega⟩
 simp only [Bool.and_eq_true, Bool.or_eq_true, bne_iff_ne, ne_eq, beq_iff_eq] at this
 exact ⟨this.1.1, this.1.2, this.2⟩
theorem ahead_put' (i : Inst) (op : Int) (tl : List Int) (hop : isP op.toNat = false) (hr : 0 ≤ i.Rep ∧ i.Rep ≤ 2) (hs : 0 ≤ i.Seg ∧ i.Seg ≤ 4) :
  aheadR (aheadL i ++ op :: tl) inst0 = .ok (op, { inst0 with Lock := i.Lock, Rep := i.Rep, Seg := i.Seg }) tl := by
 obtain ⟨L, rp, sg, a, b, c, d, e, f, g⟩ := i
 simp only at hr hs
 have h1 : rp = 0 ∨ rp = 1 ∨ rp = 2 := by omega
 have h2 : sg = 0 ∨ sg = 1 ∨ sg = 2 ∨ sg = 3 ∨ sg = 4 := by omega
 cases L <;> rcases h1 with rfl | rfl | rfl <;> rcases h2 with rfl | rfl | rfl | rfl | rfl <;> simp [aheadL, aheadR, isP, inst0, hop] <;> simp [isP] at hop <;> simp [hop]
theorem fitB_iff {w : Int} : fitB w = true ↔ (w < 128 ∨ 65408 ≤ w) := by simp [fitB]
theorem sgn_of {w : Int} (h0 : 0 ≤ w) (h1 : w ≤ 65535) (h : fitB w = true) : sgn (w % 256) = w := by
 rw [fitB_iff] at h
 unfold sgn
 split <;> omega
theorem dispI_le (m r : Int) : dispI m r = 0 ∨ dispI m r = 1 ∨ dispI m r = 2 := dispI_lo m r
theorem second_put (i j : Inst) (tl : List Int) (hM : (0 ≤ i.Mod ∧ i.Mod ≤ 3) ∧ (0 ≤ i.Reg ∧ i.Reg ≤ 7) ∧ (0 ≤ i.RM ∧ i.RM ≤ 7)) (hd0 : dispI i.Mod i.RM = 0 → i.Disp = j.Disp) (hd1 : dispI i.Mod i.RM = 1 → fitB i.Disp = true) (hd : 0 ≤ i.Disp ∧ i.Disp ≤ 65535) :
  secondR ((64 * i.Mod + 8 * i.Reg + i.RM) :: (twoI i.Disp).take (dispI i.Mod i.RM).toNat ++ tl) j = .ok { j with Mod := i.Mod, Reg := i.Reg, RM := i.RM, Disp := i.Disp } tl := by
 have e1 : (64 * i.Mod + 8 * i.Reg + i.RM) / 64 = i.Mod := by omega
 have e2 : (64 * i.Mod + 8 * i.Reg + i.RM) / 8 % 8 = i.Reg := by omega
 have e3 : (64 * i.Mod + 8 * i.Reg + i.RM) % 8 = i.RM := by omega
 unfold secondR
 rw [List.cons_append]
 simp only [nextR, Rd'.bind, modI, e1, e2, e3]
 rcases dispI_le i.Mod i.RM with h | h | h
 ·simp only [h, Int.reduceBEq, Bool.false_eq_true, if_false, Int.toNat_zero, List.take_zero, List.nil_append, hd0 h]
 ·simp only [h, Int.reduceBEq, if_true, Int.toNat_one, twoI, List.take_succ_cons, List.take_zero, List.cons_append, List.nil_append, sgn_of hd.1 hd.2 (hd1 h)]
 ·have e : (2 : Int).toNat = 2 := rfl
  have e4 : i.Disp % 256 + i.Disp / 256 * 256 = i.Disp := by omega
  simp only [h, Int.reduceBEq, if_true, Bool.false_eq_true, if_false, e, twoI, List.take_succ_cons, List.take_zero, List.cons_append, List.nil_append, wordR, nextR, Rd'.bind, e4]
theorem bytI_1 {k : Int} (h : bytI k = 1) : k = 6 ∨ k = 8 ∨ k = 9 := by
 simp only [bytI, beq_iff_eq] at h
 repeat' (split at h)
 all_goals omega
theorem bytI_2 {k : Int} (h : bytI k = 2) : k = 7 ∨ k = 10 ∨ k = 12 ∨ k = 13 := by
 simp only [bytI, beq_iff_eq] at h
 repeat' (split at h)
 all_goals omega
theorem beh_put (i j : Inst) (w : Row) (tl : List Int) (h8 : w.A ≠ 8) (h9 : w.B ≠ 9) (h0 : bytI w.A = 0 ∨ bytI w.B = 0) (hb : behB i w = true) (hi : 0 ≤ i.Imm ∧ i.Imm ≤ 65535) (hs : 0 ≤ i.Sel ∧ i.Sel ≤ 65535) (hj : j.Imm = 0 ∧ j.Sel = 0) :
  behR (behL i (immN w) ++ tl) j w = .ok { j with Imm := i.Imm, Sel := i.Sel } tl := by
 obtain ⟨k, hk1, hk2, hk3⟩ : ∃ k, k = (if bytI w.A == 0 then w.B else w.A) ∧ bytI k = immN w ∧ ((bytI w.A = 0 ∧ k = w.B) ∨ (bytI w.A ≠ 0 ∧ bytI w.B = 0 ∧ k = w.A)) := by
  refine ⟨_, rfl, ?_, ?_⟩
  ·by_cases ha : bytI w.A = 0
   ·simp [ha, immN]
   ·have : (bytI w.A == 0) = false := by simp [ha]
    simp only [this, Bool.false_eq_true, if_false, immN]
    omega
  ·by_cases ha : bytI w.A = 0
   ·exact .inl ⟨ha, by simp [ha]⟩
   ·exact .inr ⟨ha, by omega, by simp [ha]⟩
 have hb' : (match stepB i w k with | some b => b | none => i.Imm == 0 && i.Sel == 0) = true := by
  rw [hk1]; unfold behB at hb; exact hb
 have hn : immN w = 0 ∨ immN w = 1 ∨ immN w = 2 ∨ immN w = 4 := by rw [← hk2]; exact bytI_lo k
 unfold behR
 rcases hn with hn | hn | hn | hn
 ·rw [hn] at hk2 ⊢
  rw [(stepB_none i w k).2 hk2] at hb'
  simp only [Bool.and_eq_true, beq_iff_eq] at hb'
  have hI := hb'.1.trans hj.1.symm
  have hS := hb'.2.trans hj.2.symm
  simp only [Int.reduceBEq, Bool.false_eq_true, if_false, behL, Int.reduceEq, or_self, List.nil_append, hI, hS]
 ·rw [hn] at hk2 ⊢
  have e1 : (1 : Int).toNat = 1 := rfl
  simp only [Int.reduceBEq, if_true, behL, true_or, twoI, e1, List.take_succ_cons, List.take_zero, List.cons_append, List.nil_append, nextR, Rd'.bind]
  rcases bytI_1 hk2 with rfl | rfl | rfl
  ·simp [stepB] at hb'
   have a9 : (w.A == 9) = false := by
    rcases hk3 with ⟨ha, _⟩ | ⟨_, _, ha⟩
    ·simp; intro h; rw [h] at ha; simp [bytI] at ha
    ·simp [← ha]
   have b8 : (w.B == 8) = false := by
    rcases hk3 with ⟨_, ha⟩ | ⟨_, ha, _⟩
    ·simp [← ha]
    ·simp; intro h; rw [h] at ha; simp [bytI] at ha
   simp only [a9, b8, Bool.false_eq_true, if_false, hj.2]
   rw [Int.emod_eq_of_lt hi.1 hb'.1, hb'.2.1, ← hj.2]
  ·simp [stepB] at hb'
   have hk3' := hk3.resolve_right fun h => h8 h.2.2.symm
   have a9 : (w.A == 9) = false := by simp; intro h; have := hk3'.1; rw [h] at this; simp [bytI] at this
   have b8 : (w.B == 8) = true := by simp [← hk3'.2]
   simp only [a9, b8, Bool.false_eq_true, if_false, if_true, sgn_of hi.1 hi.2 hb'.1, hb'.2, ← hj.2]
  ·simp [stepB] at hb'
   have hk3' := hk3.resolve_left fun h => h9 h.2.symm
   have a9 : (w.A == 9) = true := by simp [← hk3'.2.2]
   simp only [a9, if_true, sgn_of hi.1 hi.2 hb'.1, hb'.2, ← hj.2]
 ·rw [hn] at hk2 ⊢
  have e1 : (2 : Int).toNat = 2 := rfl
  have e4 : i.Imm % 256 + i.Imm / 256 * 256 = i.Imm := by omega
  have hS : i.Sel = 0 := by rcases bytI_2 hk2 with rfl | rfl | rfl | rfl <;> simpa [stepB] using hb'
  simp only [Int.reduceBEq, Bool.false_eq_true, if_false, if_true, behL, or_true, twoI, e1, List.take_succ_cons, List.take_zero, List.cons_append, List.nil_append, wordR, nextR, Rd'.bind, e4, hS, ← hj.2]
 ·rw [hn] at hk2 ⊢
  have e4 : i.Imm % 256 + i.Imm / 256 * 256 = i.Imm := by omega
  have e5 : i.Sel % 256 + i.Sel / 256 * 256 = i.Sel := by omega
  simp only [Int.reduceBEq, Bool.false_eq_true, if_false, if_true, behL, Int.reduceEq, or_self, twoI, List.cons_append, List.nil_append, wordR, nextR, Rd'.bind, e4, e5]
theorem take_put (i : Inst) (more : List Int) (ho : okI i) (hm : mayB i = true) : takeR (putL i ++ more) = .ok i more := by
 obtain ⟨hp, hrow, h2⟩ := row_of ho hm
 obtain ⟨f1, f2, f3, f4, f5⟩ := mayB_facts i hm
 have hm' := hm
 simp only [mayB, Bool.and_eq_true] at hm'
 obtain ⟨g1, g2, g3, g4⟩ := hm'
 obtain ⟨r8, r9, r0⟩ := row3 (i := i) ho.1
 have ht := mod_two ho.1 h2
 rw [hrow] at g2 g3 f5
 unfold takeR putL
 rw [hrow, List.append_assoc, List.append_assoc, List.append_assoc]
 rw [show [i.Op] ++ (modL i (rw' (look i.Op.toNat (i.Reg % 8).toNat)).1 ++ (behL i (bytI (rw' (look i.Op.toNat (i.Reg % 8).toNat)).1.A + bytI (rw' (look i.Op.toNat (i.Reg % 8).toNat)).1.B) ++ more)) = i.Op :: (modL i (rw' (look i.Op.toNat (i.Reg % 8).toNat)).1 ++ (behL i (immN (rw' (look i.Op.toNat (i.Reg % 8).toNat)).1) ++ more)) from rfl]
 rw [ahead_put' i i.Op _ hp f3 f2]
 simp only [Rd'.bind]
 rw [← ht]
 have fin : ∀ j : Inst, j = { i with Imm := 0, Sel := 0 } → endR (behL i (immN (rw' (look i.Op.toNat (i.Reg % 8).toNat)).1) ++ more) j = .ok i more := by
  rintro j rfl
  unfold endR
  simp only [h2, Bool.not_true, Bool.false_eq_true, if_false]
  rw [beh_put i _ _ more r8 r9 r0 g3 ho.2.2.1 ho.2.2.2 ⟨rfl, rfl⟩]
  simp only [Rd'.bind, hm, Bool.not_true, Bool.false_eq_true, if_false]
 cases hM : (rw' (look i.Op.toNat (i.Reg % 8).toNat)).1.Mod with
 | true =>
  rw [hM] at f5
  simp only [secB, hM, if_true, Bool.and_eq_true] at g2
  obtain ⟨_, _, _, _, _, _, _, gd⟩ := g2
  obtain ⟨q1, q2, q3⟩ := f5 rfl
  rw [if_pos rfl, show modL i (rw' (look i.Op.toNat (i.Reg % 8).toNat)).1 = (64 * i.Mod + 8 * i.Reg + i.RM) :: (twoI i.Disp).take (dispI i.Mod i.RM).toNat by unfold modL; rw [if_pos hM]]
  rw [second_put i _ _ ⟨q1, q2, q3⟩ (fun h => by simp only [h, beq_self_eq_true, if_true, beq_iff_eq] at gd; exact gd) (fun h => by simpa [h] using gd) ho.2.1]
  exact fin _ rfl
 | false =>
  simp only [secB, hM, Bool.false_eq_true, if_false, Bool.and_eq_true, beq_iff_eq] at g2
  obtain ⟨z1, z2, z3, z4⟩ := g2
  rw [if_neg (by simp), show modL i (rw' (look i.Op.toNat (i.Reg % 8).toNat)).1 = [] by unfold modL; rw [if_neg (by simp [hM])]]
  rw [List.nil_append]
  refine fin _ ?_
  obtain ⟨L, rp, sg, a, b, c, d, e, f, g⟩ := i
  simp only at z1 z2 z3 z4
  subst z1 z2 z3 z4
  rfl
def Sh {α : Type} (p : List Int → Rd' α) (l : List Int) : Rd' α → Int → Prop
 | .ok a r, x => (r = [] ∧ p l = .die 2) ∨ ∃ r', r = r' ++ [x] ∧ p l = .ok a r'
 | .die e, _ => p l = .die 2 ∨ p l = .die e
def Good {α : Type} (p : List Int → Rd' α) : Prop := (∀ l x, Sh p l (p (l ++ [x])) x) ∧ ∀ l a r, p l = .ok a r → r.length ≤ l.length
theorem Good.pure {α : Type} (a : α) : Good (fun l => .ok a l) := ⟨fun l x => .inr ⟨l, rfl, rfl⟩, fun l b r h => by cases h; exact Nat.le_refl _⟩
theorem Good.die {α : Type} (e : Int) : Good (fun _ => (.die e : Rd' α)) := ⟨fun l x => .inr rfl, fun l b r h => by cases h⟩
theorem Good.next : Good nextR := ⟨fun l x => by
 cases l with
 | nil => exact .inl ⟨rfl, rfl⟩
 | cons c l => exact .inr ⟨l, rfl, rfl⟩, fun l b r h => by rw [nextR_ok h]; simp⟩
theorem bind_ok {α β : Type} {x : Rd' α} {k : α → List Int → Rd' β} {b : β} {r : List Int} (h : x.bind k = .ok b r) : ∃ a r', x = .ok a r' ∧ k a r' = .ok b r := by
 cases x with
 | ok a r' => exact ⟨a, r', rfl, h⟩
 | die e => cases h
theorem Good.bind {α β : Type} {p : List Int → Rd' α} {k : α → List Int → Rd' β} (hp : Good p) (hk : ∀ a, Good (k a)) : Good (fun l => (p l).bind k) := by
 refine ⟨fun l x => ?_, fun l b r h => ?_⟩
 ·have h := hp.1 l x
  show Sh (fun l => (p l).bind k) l ((p (l ++ [x])).bind k) x
  cases e1 : p (l ++ [x]) with
  | die e =>
   rw [e1] at h
   rcases h with h | h
   ·exact .inl (by show (p l).bind k = _; rw [h]; rfl)
   ·exact .inr (by show (p l).bind k = _; rw [h]; rfl)
  | ok a r =>
   rw [e1] at h
   rcases h with ⟨rfl, h⟩ | ⟨r', rfl, h⟩
   ·show Sh _ l (k a []) x
    have hb : (p l).bind k = .die 2 := by rw [h]; rfl
    cases e2 : k a [] with
    | die e => exact .inl hb
    | ok b r2 =>
     have := (hk a).2 [] b r2 e2
     exact .inl ⟨by cases r2 with | nil => rfl | cons => simp at this, hb⟩
   ·have h2 := (hk a).1 r' x
    show Sh _ l (k a (r' ++ [x])) x
    have hb : (p l).bind k = k a r' := by rw [h]; rfl
    cases e2 : k a (r' ++ [x]) with
    | die e =>
     rw [e2] at h2
     exact h2.imp (fun h => hb.trans h) (fun h => hb.trans h)
    | ok b r2 =>
     rw [e2] at h2
     exact h2.imp (fun h => ⟨h.1, hb.trans h.2⟩) (fun ⟨r3, h3, h4⟩ => ⟨r3, h3, hb.trans h4⟩)
 ·obtain ⟨a, r', h1, h2⟩ := bind_ok h
  exact Nat.le_trans ((hk a).2 _ _ _ h2) (hp.2 _ _ _ h1)
theorem Good.ite {α : Type} {c : Prop} [Decidable c] {p q : List Int → Rd' α} (hp : Good p) (hq : Good q) : Good (fun l => if c then p l else q l) := by
 by_cases h : c
 ·have : (fun l => if c then p l else q l) = p := by funext l; rw [if_pos h]
  rw [this]; exact hp
 ·have : (fun l => if c then p l else q l) = q := by funext l; rw [if_neg h]
  rw [this]; exact hq
theorem Good.word : Good wordR := Good.bind Good.next fun a => Good.bind Good.next fun b => Good.pure _
theorem Good.second (i : Inst) : Good (fun l => secondR l i) := Good.bind Good.next fun c => Good.ite (Good.bind Good.next fun d => Good.pure _) (Good.ite (Good.bind Good.word fun w => Good.pure _) (Good.pure _))
theorem Good.beh (i : Inst) (w : Row) : Good (fun l => behR l i w) := Good.ite (Good.bind Good.next fun d => Good.pure _) (Good.ite (Good.bind Good.word fun w => Good.pure _) (Good.ite (Good.bind Good.word fun w => Good.bind Good.word fun v => Good.pure _) (Good.pure _)))
theorem Good.end_ (i : Inst) : Good (fun l => endR l i) := Good.ite (Good.die 3) (Good.bind (Good.beh i _) fun j => Good.ite (Good.die 3) (Good.pure _))
theorem Good.ahead : ∀ (n : Nat) (l : List Int) (x : Int) (i : Inst), l.length ≤ n → Sh (fun l => aheadR l i) l (aheadR (l ++ [x]) i) x
 | _, [], x, i, _ => by
  rw [List.nil_append]
  unfold aheadR
  split
  ·split
   ·exact .inl rfl
   ·split
    ·exact .inl rfl
    ·split
     ·exact .inl rfl
     ·exact .inl rfl
  ·exact .inl ⟨rfl, rfl⟩
 | 0, c :: l, x, i, h => by simp at h
 | n + 1, c :: l, x, i, h => by
  have ih : ∀ j, Sh (fun l => aheadR l j) l (aheadR (l ++ [x]) j) x := fun j => Good.ahead n l x j (by simpa using h)
  have tr : ∀ j, aheadR (c :: l) i = aheadR l j → Sh (fun l => aheadR l i) (c :: l) (aheadR (l ++ [x]) j) x := fun j e => by
   have := ih j
   cases e2 : aheadR (l ++ [x]) j with
   | die e' => rw [e2] at this; exact this.imp (fun h => e.trans h) (fun h => e.trans h)
   | ok b r2 => rw [e2] at this; exact this.imp (fun h => ⟨h.1, e.trans h.2⟩) (fun ⟨r3, h3, h4⟩ => ⟨r3, h3, e.trans h4⟩)
  rw [List.cons_append]
  conv => arg 3; unfold aheadR
  split
  ·rename_i h1
   split
   ·rename_i h2; exact tr _ (by conv => lhs; unfold aheadR; rw [if_pos h1, if_pos h2])
   ·rename_i h2
    split
    ·rename_i h3; exact tr _ (by conv => lhs; unfold aheadR; rw [if_pos h1, if_neg h2, if_pos h3])
    ·rename_i h3
     split
     ·rename_i h4; exact tr _ (by conv => lhs; unfold aheadR; rw [if_pos h1, if_neg h2, if_neg h3, if_pos h4])
     ·rename_i h4; exact .inr (by show aheadR (c :: l) i = _; unfold aheadR; rw [if_pos h1, if_neg h2, if_neg h3, if_neg h4])
  ·rename_i h1; exact .inr ⟨l, rfl, by show aheadR (c :: l) i = _; unfold aheadR; rw [if_neg h1]⟩
theorem aheadR_len : ∀ {l r : List Int} {i : Inst} {a : Int × Inst}, aheadR l i = .ok a r → r.length ≤ l.length
 | [], r, i, a, h => by cases h
 | c :: l, r, i, a, h => by
  unfold aheadR at h
  split at h
  ·split at h
   ·exact Nat.le_succ_of_le (aheadR_len h)
   ·split at h
    ·exact Nat.le_succ_of_le (aheadR_len h)
    ·split at h
     ·exact Nat.le_succ_of_le (aheadR_len h)
     ·cases h
  ·cases h; exact Nat.le_succ _
theorem Good.take : Good takeR := Good.bind (p := fun l => aheadR l inst0) ⟨fun l x => Good.ahead l.length l x inst0 (Nat.le_refl _), fun l a r h => aheadR_len h⟩ fun x => Good.ite (Good.bind (Good.second _) fun i => Good.end_ i) (Good.end_ _)
theorem take_short (i : Inst) (l : List Int) (x : Int) (ho : okI i) (hm : mayB i = true) (h : putL i = l ++ [x]) : takeR l = .die 2 := by
 have h1 := take_put i [] ho hm
 rw [List.append_nil, h] at h1
 have h2 := Good.take.1 l x
 rw [h1] at h2
 rcases h2 with h2 | ⟨r', h3, _⟩
 ·exact h2.2
 ·exact absurd h3.symm (by simp)
theorem putL_by (i : Inst) (ho : okI i) (hm : mayB i = true) : By (putL i) := by
 obtain ⟨hp, hrow, h2⟩ := row_of ho hm
 obtain ⟨f1, f2, f3, f4, f5⟩ := mayB_facts i hm
 have ha : By (aheadL i) := by
  intro x hx
  unfold aheadL at hx
  simp only [List.mem_append] at hx
  rcases hx with hx | hx | hx
  ·split at hx
   ·simp at hx; omega
   ·simp at hx
  ·split at hx
   ·simp at hx; omega
   ·simp at hx
  ·split at hx
   ·simp at hx; omega
   ·simp at hx
 have ht : ∀ w : Int, 0 ≤ w ∧ w ≤ 65535 → ∀ x ∈ twoI w, 0 ≤ x ∧ x ≤ 255 := by
  intro w hw x hx
  simp only [twoI, List.mem_cons, List.not_mem_nil, or_false] at hx
  rcases hx with rfl | rfl <;> omega
 intro x hx
 unfold putL at hx
 simp only [List.mem_append, List.mem_cons, List.not_mem_nil, or_false] at hx
 rcases hx with hx | rfl | hx | hx
 ·exact ha x hx
 ·exact ho.1
 ·unfold modL at hx
  split at hx
  ·rename_i hmm
   obtain ⟨q1, q2, q3⟩ := f5 hmm
   simp only [List.mem_cons] at hx
   rcases hx with rfl | hx
   ·omega
   ·exact ht _ ho.2.1 x (List.mem_of_mem_take hx)
  ·cases hx
 ·unfold behL at hx
  split at hx
  ·exact ht _ ho.2.2.1 x (List.mem_of_mem_take hx)
  ·split at hx
   ·rcases List.mem_append.1 hx with hx | hx
    ·exact ht _ ho.2.2.1 x hx
    ·exact ht _ ho.2.2.2 x hx
   ·cases hx
theorem lenI_lo (i : Inst) (hm : mayB i = true) : 1 ≤ (putL i).length ∧ (putL i).length ≤ 20 := by
 unfold putL aheadL
 have := modL_len i (rowI i.Op i.Reg).1
 have hb : (behL i (bytI (rowI i.Op i.Reg).1.A + bytI (rowI i.Op i.Reg).1.B)).length ≤ 4 := by
  unfold behL
  split
  ·rw [List.length_take]; simp only [twoI_len]; omega
  ·split
   ·simp [twoI]
   ·simp
 simp only [List.length_append, List.length_cons, List.length_nil]
 have h1 : (if i.Lock = true then [240] else ([] : List Int)).length ≤ 1 := by split <;> simp
 have h2 : (if i.Rep > 0 then [241 + i.Rep] else ([] : List Int)).length ≤ 1 := by split <;> simp
 have h3 : (if i.Seg > 0 then [30 + 8 * i.Seg] else ([] : List Int)).length ≤ 1 := by split <;> simp
 omega
def iAw : Inst := ⟨false, 0, 0, 184, 0, 0, 0, 0, 4660, 0⟩
theorem awake7 : hansomlaw07_awake = some true := by
 unfold hansomlaw07_awake
 have ht : takeR [184, 52, 18, 144] = .ok iAw [144] := by kernel_rfl
 have hb : By [184, 52, 18, 144] := by
  intro x hx
  simp only [List.mem_cons, List.not_mem_nil, or_false] at hx
  omega
 rw [get_spec _ (by decide) hb, ht, Option.bind_some]
 rfl
theorem By.map (s : List UInt8) : By (s2b s) := by
 intro x hx
 simp only [s2b, List.mem_map] at hx
 obtain ⟨c, _, rfl⟩ := hx
 have := c.toNat_lt
 omega
def GoodI (i : Inst) : Prop := okI i ∧ mayB i = true
def flat (xs : List Inst) : List Int := xs.flatMap putL
theorem flat_cons (x : Inst) (xs : List Inst) : flat (x :: xs) = putL x ++ flat xs := rfl
theorem flat_snoc (x : Inst) (xs : List Inst) : flat (xs ++ [x]) = flat xs ++ putL x := by simp [flat]
theorem flat_by {xs : List Inst} (h : ∀ x ∈ xs, GoodI x) : By (flat xs) := by
 intro y hy
 simp only [flat, List.mem_flatMap] at hy
 obtain ⟨x, hx, hy⟩ := hy
 exact putL_by x (h x hx).1 (h x hx).2 y hy
theorem flat_len : ∀ {xs : List Inst}, (∀ x ∈ xs, GoodI x) → (flat xs).length ≤ 20 * xs.length
 | [], _ => by simp [flat]
 | x :: xs, h => by
  have h1 := (lenI_lo x (h x (by simp)).2).2
  have h2 := flat_len (xs := xs) (fun y hy => h y (by simp [hy]))
  rw [flat_cons, List.length_append, List.length_cons]
  omega
theorem take_die2 : ∀ (n : Nat) (l s : List Int), s.length = n → takeR (l ++ s) = .die 2 → takeR l = .die 2
 | 0, l, s, hn, h => by
  have : s = [] := List.length_eq_zero_iff.1 hn
  rw [this, List.append_nil] at h; exact h
 | n + 1, l, s, hn, h => by
  rcases List.eq_nil_or_concat s with rfl | ⟨t, y, rfl⟩
  ·cases hn
  ·rw [List.concat_eq_append] at hn h
   rw [← List.append_assoc] at h
   have h2 := Good.take.1 (l ++ t) y
   rw [h] at h2
   refine take_die2 n l t (by simpa using hn) ?_
   rcases h2 with h2 | h2 <;> exact h2
theorem take_part {i : Inst} (hi : GoodI i) {l s : List Int} (h : putL i = l ++ s) (hs : s ≠ []) : takeR l = .die 2 := by
 rcases List.eq_nil_or_concat s with rfl | ⟨t, y, rfl⟩
 ·exact absurd rfl hs
 ·rw [List.concat_eq_append, ← List.append_assoc] at h
  exact take_die2 t.length l t rfl (take_short i (l ++ t) y hi.1 hi.2 h)
theorem all_step (B : List Int) (pre l : List Int) (out : List Inst) (hB : B = pre ++ l) (hl : l ≠ []) (hlen : B.length ≤ 1000) (hb : By l) (ho : out.length ≤ 1000) :
  scan_All_l8 out B (pre.length : Int) = some (match takeR l with | .ok i r => .next (out ++ [i], (pre.length : Int) + ((l.length - r.length : Nat) : Int)) | .die e => if e = 0 then .next (out ++ [inst0], (pre.length : Int)) else .out (out, (pre.length : Int))) := by
 have hpos : 0 < l.length := List.length_pos_iff.2 hl
 have hBl : B.length = pre.length + l.length := by rw [hB]; simp
 have e1 : decide ((pre.length : Int) < (B.length : Int)) = true := by simp; omega
 have e2 : cutL B (pre.length : Int) (B.length : Int) = some l := by
  rw [cutL_eq (by omega) (by omega) (by omega)]
  simp only [Int.toNat_natCast]
  rw [hB]
  simp
 unfold scan_All_l8
 simp only [e1, if_true, e2, Option.bind_some, get_spec l (by omega) hb]
 cases ht : takeR l with
 | die e =>
  by_cases h0 : e = 0
  ·subst h0
   have e3 : ((0 : Int) != 0) = false := rfl
   simp only [e3, Bool.false_eq_true, if_false, if_true]
   rw [grow_eq (by simp; omega) (by simp; omega), Option.bind_some, wrap64 (by omega) (by omega)]
   simp
  ·have e3 : (e != 0) = true := by simp [h0]
   simp only [e3, if_true, h0, if_false]
 | ok i r =>
  have e3 : ((0 : Int) != 0) = false := rfl
  simp only [e3, Bool.false_eq_true, if_false]
  rw [grow_eq (by simp; omega) (by simp; omega), Option.bind_some, wrap64 (by omega) (by omega)]
theorem all_run (B : List Int) (hlen : B.length ≤ 1000) : ∀ (xs : List Inst) (pre tail : List Int) (out : List Inst), (∀ x ∈ xs, GoodI x) → By tail → B = pre ++ (flat xs ++ tail) → out.length + xs.length ≤ 1000 →
  loopO (fun x : ((List Inst) × Int) => scan_All_l8 x.1 B x.2) (out, (pre.length : Int)) = loopO (fun x : ((List Inst) × Int) => scan_All_l8 x.1 B x.2) (out ++ xs, ((pre ++ flat xs).length : Int))
 | [], pre, tail, out, _, _, _, _ => by simp [flat]
 | x :: xs, pre, tail, out, hg, ht, hB, ho => by
  have hx := hg x (by simp)
  have hl1 := lenI_lo x hx.2
  have hne : flat (x :: xs) ++ tail ≠ [] := by
   rw [flat_cons]; intro h
   have := congrArg List.length h
   simp at this
   have h0 : (putL x).length = 0 := by rw [this.1]; rfl
   omega
  have hby : By (flat (x :: xs) ++ tail) := by
   intro y hy
   rcases List.mem_append.1 hy with hy | hy
   ·exact flat_by hg y hy
   ·exact ht y hy
  simp only [List.length_cons] at ho
  rw [loopO_eq]
  simp only [all_step B pre _ out hB hne hlen hby (by omega)]
  have htk : takeR (flat (x :: xs) ++ tail) = .ok x (flat xs ++ tail) := by
   rw [flat_cons, List.append_assoc]; exact take_put x _ hx.1 hx.2
  rw [htk]
  simp only [Option.bind_some]
  have e : (pre.length : Int) + (((flat (x :: xs) ++ tail).length - (flat xs ++ tail).length : Nat) : Int) = ((pre ++ putL x).length : Int) := by
   rw [flat_cons]; simp only [List.length_append]; omega
  rw [e, all_run B hlen xs (pre ++ putL x) tail (out ++ [x]) (fun y hy => hg y (by simp [hy])) ht (by rw [hB, flat_cons]; simp) (by simp; omega)]
  rw [flat_cons]
  simp
theorem all_end (B pre l : List Int) (out : List Inst) (hlen : B.length ≤ 1000) (hB : B = pre ++ l) (hb : By l) (ho : out.length ≤ 1000) (h : l = [] ∨ takeR l = .die 2 ∨ takeR l = .die 3) :
  loopO (fun x : ((List Inst) × Int) => scan_All_l8 x.1 B x.2) (out, (pre.length : Int)) = some (out, (pre.length : Int)) := by
 rw [loopO_eq]
 by_cases hl : l = []
 ·have e1 : decide ((pre.length : Int) < (B.length : Int)) = false := by rw [hB, hl]; simp
  simp only [scan_All_l8, e1, Bool.false_eq_true, if_false, Option.bind_some]
 ·simp only [all_step B pre l out hB hl hlen hb ho]
  rcases h with h | h | h
  ·exact absurd h hl
  ·rw [h]; rfl
  ·rw [h]; rfl
theorem all_whole (xs : List Inst) (hg : ∀ x ∈ xs, GoodI x) (hn : xs.length ≤ 20) : scan_All (flat xs ++ [15, 144]) = some (xs, ((flat xs).length : Int)) := by
 have hfl := flat_len hg
 have hlen : (flat xs ++ [15, 144]).length ≤ 1000 := by simp; omega
 have hb2 : By [15, 144] := by
  intro x hx
  simp only [List.mem_cons, List.not_mem_nil, or_false] at hx
  omega
 unfold scan_All
 have h1 := all_run _ hlen xs [] [15, 144] [] hg hb2 rfl (by simp; omega)
 simp only [List.length_nil, List.nil_append] at h1
 have ht : takeR [15, 144] = .die 3 := by kernel_rfl
 have h2 := all_end _ (flat xs) [15, 144] xs hlen rfl hb2 (by omega) (.inr (.inr ht))
 show (loopO (fun x : ((List Inst) × Int) => scan_All_l8 x.1 (flat xs ++ [15, 144]) x.2) (([] : List Inst), ((0 : Nat) : Int))).bind _ = _
 rw [h1, h2]; rfl
theorem all_pref (B : List Int) (hlen : B.length ≤ 1000) : ∀ (xs : List Inst) (pre : List Int) (m : Nat) (out : List Inst), (∀ x ∈ xs, GoodI x) → B = pre ++ (flat xs).take m → out.length + xs.length ≤ 1000 →
  ∃ o k, loopO (fun x : ((List Inst) × Int) => scan_All_l8 x.1 B x.2) (out, (pre.length : Int)) = some (o, k) ∧ o.length ≤ out.length + xs.length ∧ k ≤ (B.length : Int)
 | [], pre, m, out, _, hB, ho => by
  refine ⟨out, (pre.length : Int), ?_, by simp, by rw [hB]; simp; omega⟩
  exact all_end B pre [] out hlen (by rw [hB]; simp [flat]) (fun x hx => by cases hx) (by simpa using ho) (.inl rfl)
 | x :: xs, pre, m, out, hg, hB, ho => by
  have hx := hg x (by simp)
  simp only [List.length_cons] at ho
  by_cases hm : m < (putL x).length
  ·have hB2 : B = pre ++ (putL x).take m := by
    rw [hB, flat_cons, List.take_append_of_le_length (by omega)]
   refine ⟨out, (pre.length : Int), ?_, by omega, by rw [hB]; simp; omega⟩
   refine all_end B pre ((putL x).take m) out hlen hB2 (fun y hy => putL_by x hx.1 hx.2 y (List.mem_of_mem_take hy)) (by omega) (.inr (.inl ?_))
   refine take_part hx (s := (putL x).drop m) (List.take_append_drop m _).symm ?_
   intro h
   have := congrArg List.length h
   simp at this
   omega
  ·have hB2 : B = pre ++ (putL x ++ (flat xs).take (m - (putL x).length)) := by
    rw [hB, flat_cons, List.take_append, List.take_of_length_le (by omega)]
   have hrun := all_run B hlen [x] pre ((flat xs).take (m - (putL x).length)) out (fun y hy => by simp at hy; rw [hy]; exact hx) (fun y hy => flat_by (fun z hz => hg z (by simp [hz])) y (List.mem_of_mem_take hy)) (by rw [hB2]; simp [flat]) (by simp; omega)
   obtain ⟨o, k, h1, h2, h3⟩ := all_pref B hlen xs (pre ++ putL x) (m - (putL x).length) (out ++ [x]) (fun y hy => hg y (by simp [hy])) (by rw [hB2]; simp) (by simp; omega)
   refine ⟨o, k, ?_, by simp at h2 ⊢; omega, h3⟩
   rw [hrun]
   rw [← h1]
   simp [flat]
theorem all_cut (xs : List Inst) (hg : ∀ x ∈ xs, GoodI x) (hn : xs.length ≤ 20) (m : Nat) : ∃ o k, scan_All ((flat xs).take m) = some (o, k) ∧ o.length ≤ xs.length ∧ k ≤ ((flat xs).length : Int) := by
 have hfl := flat_len hg
 have hlen : ((flat xs).take m).length ≤ 1000 := by rw [List.length_take]; omega
 obtain ⟨o, k, h1, h2, h3⟩ := all_pref _ hlen xs [] m [] hg rfl (by simp; omega)
 refine ⟨o, k, ?_, by simpa using h2, ?_⟩
 ·unfold scan_All
  simp only [List.length_nil] at h1
  show (loopO (fun x : ((List Inst) × Int) => scan_All_l8 x.1 ((flat xs).take m) x.2) (([] : List Inst), ((0 : Nat) : Int))).bind _ = _
  rw [h1]; rfl
 ·rw [List.length_take] at h3; omega
end Go.Es.Sca
