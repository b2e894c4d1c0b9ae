/- What the functions answer, in plain Lean. No condition. -/
import Derived.Test.YtikbjljifgadmaaDoorDsnP
import Derived.KernelRfl
set_option linter.unusedVariables false
set_option linter.unusedSimpArgs false
set_option maxHeartbeats 4000000
set_option maxRecDepth 100000
namespace Go.Es.Dsn
/-! ### texts -/
def skipU : List UInt8 → List UInt8
  | [] => []
  | c :: r => if c.toNat = 32 then r else skipU r
def takeU : List UInt8 → List UInt8
  | [] => []
  | c :: r => if c.toNat = 32 then [] else c :: takeU r
def wordU (s : List UInt8) : Nat → List UInt8
  | 0 => takeU s
  | n + 1 => wordU (skipU s) n
def fndU (w : List UInt8) : List UInt8 → List UInt8 → Nat → Nat
  | [], _, _ => 0
  | c :: r, cur, n => if c.toNat = 32 then (if cur = w then n else fndU w r [] (n + 1)) else fndU w r (cur ++ [c]) n
def prtU (mark : Nat) : List UInt8 → List UInt8 → Nat → List UInt8
  | [], cur, n => if n = 0 then cur else []
  | c :: r, cur, n => if c.toNat = mark then (if n = 0 then cur else prtU mark r [] (n - 1)) else prtU mark r (cur ++ [c]) n
theorem takeU_len (s : List UInt8) : (takeU s).length ≤ s.length := by
  induction s with
  | nil => simp [takeU]
  | cons c r ih => unfold takeU; split <;> simp; omega
theorem takeU_take (s : List UInt8) : takeU s = s.take (takeU s).length := by
  induction s with
  | nil => simp [takeU]
  | cons c r ih =>
    unfold takeU
    split
    · simp
    · simp only [List.length_cons, List.take_succ_cons]; rw [← ih]
theorem skipU_drop (s : List UInt8) : skipU s = s.drop ((takeU s).length + 1) := by
  induction s with
  | nil => simp [skipU]
  | cons c r ih =>
    unfold skipU takeU
    split
    · simp
    · simp only [List.length_cons, List.drop_succ_cons]; exact ih
theorem word_in (s : List UInt8) (n k : Int) (a : Nat) (ha : a ≤ s.length) (hs : s.length ≤ 100000) :
    loopO (fun x : Int => hansomref04_word_l19 s n x k) (a : Int) = some ((a + (takeU (s.drop a)).length : Nat) : Int) := by
  refine loop_to (f := fun x : Int => hansomref04_word_l19 s n x k) (fun x => ((x.toNat + (takeU (s.drop x.toNat)).length : Nat) : Int)) (fun x => ∃ b : Nat, x = (b : Int) ∧ b ≤ s.length) (fun x => (s.length - x).toNat) (fun x hx => ?_) ⟨a, rfl, ha⟩
  obtain ⟨b, rfl, hb⟩ := hx
  unfold hansomref04_word_l19
  by_cases hlt : b < s.length
  · simp only [show (b : Int) < (s.length : Int) from by omega, decide_true, if_true, idx_nat hlt, Option.bind_some, Int.toNat_natCast]
    by_cases hc : s[b].toNat = 32
    · right
      have : takeU (s.drop b) = [] := by rw [List.drop_eq_getElem_cons hlt]; simp [takeU, hc]
      simp [hc, this]
    · left
      have hc' : (((s[b].toNat : Nat) : Int) != 32) = true := by simp; omega
      have w : IntKind.wrap .i64 ((b : Int) + 1) = ((b + 1 : Nat) : Int) := by rw [wrap64 (by omega) (by omega)]; omega
      refine ⟨((b + 1 : Nat) : Int), by simp only [hc', if_true, w], ⟨b + 1, rfl, by omega⟩, by omega, ?_⟩
      have : takeU (s.drop b) = s[b] :: takeU (s.drop (b + 1)) := by rw [List.drop_eq_getElem_cons hlt]; simp [takeU, hc]
      rw [this, Int.toNat_natCast, List.length_cons]
      omega
  · right
    have : b = s.length := by omega
    subst this
    simp [takeU]
theorem word_end (s : List UInt8) (e : Int) (a : Nat) (ha : a ≤ s.length + 1) (hs : s.length ≤ 100000) :
    loopO (fun x : Int => hansomref04_word_l34 s e x) (a : Int) = some ((a + (takeU (s.drop a)).length : Nat) : Int) := by
  refine loop_to (f := fun x : Int => hansomref04_word_l34 s e x) (fun x => ((x.toNat + (takeU (s.drop x.toNat)).length : Nat) : Int)) (fun x => ∃ b : Nat, x = (b : Int) ∧ b ≤ s.length + 1) (fun x => (s.length - x).toNat) (fun x hx => ?_) ⟨a, rfl, ha⟩
  obtain ⟨b, rfl, hb⟩ := hx
  unfold hansomref04_word_l34
  by_cases hlt : b < s.length
  · simp only [show (b : Int) < (s.length : Int) from by omega, decide_true, if_true, idx_nat hlt, Option.bind_some, Int.toNat_natCast]
    by_cases hc : s[b].toNat = 32
    · right
      have : takeU (s.drop b) = [] := by rw [List.drop_eq_getElem_cons hlt]; simp [takeU, hc]
      simp [hc, this]
    · left
      have hc' : (((s[b].toNat : Nat) : Int) != 32) = true := by simp; omega
      have w : IntKind.wrap .i64 ((b : Int) + 1) = ((b + 1 : Nat) : Int) := by rw [wrap64 (by omega) (by omega)]; omega
      refine ⟨((b + 1 : Nat) : Int), by simp only [hc', if_true, w], ⟨b + 1, rfl, by omega⟩, by omega, ?_⟩
      have : takeU (s.drop b) = s[b] :: takeU (s.drop (b + 1)) := by rw [List.drop_eq_getElem_cons hlt]; simp [takeU, hc]
      rw [this, Int.toNat_natCast, List.length_cons]
      omega
  · right
    have : s.drop b = [] := List.drop_of_length_le (by omega)
    simp only [show ¬ (b : Int) < (s.length : Int) from by omega, decide_false, Bool.false_eq_true, if_false, Int.toNat_natCast, this, takeU]
    simp
def skips : Nat → List UInt8 → List UInt8
  | 0, s => s
  | n + 1, s => skips n (skipU s)
theorem skips_nil : ∀ n, skips n [] = []
  | 0 => rfl
  | n + 1 => skips_nil n
theorem wordU_skips : ∀ (n : Nat) (s : List UInt8), wordU s n = takeU (skips n s)
  | 0, s => rfl
  | n + 1, s => wordU_skips n (skipU s)
theorem word_spec (s : List UInt8) (n : Nat) (hs : s.length ≤ 100000) (hn : n ≤ 100000) : hansomref04_word s (n : Int) = some (wordU s n) := by
  unfold hansomref04_word
  obtain ⟨b, h1, a, h2, h3, h4⟩ := loop_rule (f := fun x : Int × Int => hansomref04_word_l8 s (n : Int) x.1 x.2) (fun x => ∃ a k : Nat, x = ((a : Int), (k : Int)) ∧ a ≤ s.length + 1 ∧ k ≤ n ∧ skips (n - k) (s.drop a) = skips n s) (fun x => (n - x.2).toNat)
    (fun b => ∃ a : Nat, b = (a : Int) ∧ a ≤ s.length + 1 ∧ s.drop a = skips n s) (fun x hx => by
      obtain ⟨a, k, rfl, ha, hk, he⟩ := hx
      simp only
      unfold hansomref04_word_l8
      by_cases h1 : k < n
      · by_cases h2 : a < s.length
        · left
          have hl := takeU_len (s.drop a)
          rw [List.length_drop] at hl
          simp only [show (k : Int) < (n : Int) from by omega, show (a : Int) < (s.length : Int) from by omega, decide_true, if_true, word_in s n k a (by omega) hs, Option.bind_some]
          refine ⟨(((a + (takeU (s.drop a)).length + 1 : Nat) : Int), ((k + 1 : Nat) : Int)), ?_, ⟨a + (takeU (s.drop a)).length + 1, k + 1, rfl, by omega, by omega, ?_⟩, by simp only; omega⟩
          · rw [wrap64 (by omega) (by omega), wrap64 (by omega) (by omega)]; rfl
          · rw [← he, show n - k = (n - (k + 1)) + 1 by omega]
            simp only [skips]
            rw [skipU_drop, List.drop_drop]
            rfl
        · right
          simp only [show (k : Int) < (n : Int) from by omega, show ¬ (a : Int) < (s.length : Int) from by omega, decide_true, decide_false, if_true, Bool.false_eq_true, if_false]
          refine ⟨_, rfl, a, rfl, ha, ?_⟩
          have hd : s.drop a = [] := List.drop_of_length_le (by omega)
          rw [hd, skips_nil] at he
          rw [hd, ← he]
      · right
        have : k = n := by omega
        subst this
        simp only [show ¬ (k : Int) < (k : Int) from by omega, decide_false, Bool.false_eq_true, if_false]
        refine ⟨_, rfl, a, rfl, ha, ?_⟩
        rw [Nat.sub_self] at he
        exact he) (x := (0, 0)) ⟨0, 0, rfl, by omega, by omega, by simp⟩
  subst h2
  rw [h1, Option.bind_some, word_end s _ a h3 hs, Option.bind_some, wordU_skips, ← h4]
  by_cases hlt : a < s.length
  · have hl := takeU_len (s.drop a)
    rw [List.length_drop] at hl
    simp only [show ¬ (a : Int) ≥ (s.length : Int) from by omega, decide_false, Bool.false_eq_true, if_false]
    rw [cutL_eq (by omega) (by omega) (by omega), Option.bind_some, Int.toNat_natCast, Int.toNat_natCast, Nat.add_sub_cancel_left, ← takeU_take]
  · have : s.drop a = [] := List.drop_of_length_le (by omega)
    simp only [show (a : Int) ≥ (s.length : Int) from by omega, decide_true, if_true, this, takeU]
theorem cut_snoc (s : List UInt8) (a b : Nat) (h1 : a ≤ b) (h2 : b < s.length) : (s.drop a).take (b - a) ++ [s[b]] = (s.drop a).take (b + 1 - a) := by
  rw [show b + 1 - a = (b - a) + 1 by omega, List.take_succ_eq_append_getElem (by rw [List.length_drop]; omega)]
  simp [show a + (b - a) = b by omega]
theorem find_spec (s w : List UInt8) (hs : s.length ≤ 100000) : hansomref04_find s w = some ((fndU w s [] 1 : Nat) : Int) := by
  unfold hansomref04_find
  have h := loop_to (f := fun x : Int × Int × Int => hansomref04_find_l8 s w x.1 x.2.1 x.2.2) (fun x => if fndU w (s.drop x.2.2.toNat) ((s.drop x.2.1.toNat).take (x.2.2.toNat - x.2.1.toNat)) x.1.toNat = 0 then (.inr () : Int ⊕ Unit) else .inl ((fndU w (s.drop x.2.2.toNat) ((s.drop x.2.1.toNat).take (x.2.2.toNat - x.2.1.toNat)) x.1.toNat : Nat) : Int))
    (fun x => ∃ n a b : Nat, x = ((n : Int), (a : Int), (b : Int)) ∧ 1 ≤ n ∧ n ≤ b + 1 ∧ a ≤ b ∧ b ≤ s.length) (fun x => (s.length - x.2.2).toNat) (fun x hx => by
      obtain ⟨n, a, b, rfl, hn, hn2, ha, hb⟩ := hx
      simp only [Int.toNat_natCast]
      unfold hansomref04_find_l8
      have w1 : IntKind.wrap .i64 ((b : Int) + 1) = ((b + 1 : Nat) : Int) := by rw [wrap64 (by omega) (by omega)]; omega
      have w2 : IntKind.wrap .i64 ((n : Int) + 1) = ((n + 1 : Nat) : Int) := by rw [wrap64 (by omega) (by omega)]; omega
      by_cases hlt : b < s.length
      · have hd : s.drop b = s[b] :: s.drop (b + 1) := List.drop_eq_getElem_cons hlt
        simp only [show (b : Int) < (s.length : Int) from by omega, decide_true, if_true, idx_nat hlt, Option.bind_some, w1, w2]
        by_cases hc : s[b].toNat = 32
        · have hc' : (((s[b].toNat : Nat) : Int) != 32) = false := by simp [hc]
          simp only [hc', Bool.false_eq_true, if_false]
          rw [cutL_eq (by omega) (by omega) (by omega), Option.bind_some, Int.toNat_natCast, Int.toNat_natCast]
          by_cases hw : (s.drop a).take (b - a) = w
          · right
            simp only [hw, beq_self_eq_true, if_true, hd, fndU, hc]
            rw [if_neg (by omega)]
          · left
            have hw' : ((s.drop a).take (b - a) == w) = false := by simpa using hw
            simp only [hw', Bool.false_eq_true, if_false]
            refine ⟨_, rfl, ⟨n + 1, b + 1, b + 1, rfl, by omega, by omega, by omega, by omega⟩, by simp only; omega, ?_⟩
            simp only [Int.toNat_natCast, hd, fndU, hc, if_true, hw, if_false, Nat.sub_self, List.take_zero]
        · left
          have hc' : (((s[b].toNat : Nat) : Int) != 32) = true := by simp; omega
          simp only [hc', if_true]
          refine ⟨_, rfl, ⟨n, a, b + 1, rfl, hn, by omega, by omega, by omega⟩, by simp only; omega, ?_⟩
          simp only [Int.toNat_natCast, hd, fndU, hc, if_false]
          rw [cut_snoc s a b ha hlt]
      · right
        have : b = s.length := by omega
        subst this
        simp [fndU]) (x := (1, 0, 0)) ⟨1, 0, 0, rfl, by omega, by omega, by omega, by omega⟩
  rw [h]
  simp only [Option.bind_some]
  show (match (if fndU w s [] 1 = 0 then (.inr () : Int ⊕ Unit) else .inl ((fndU w s [] 1 : Nat) : Int)) with | .inl e => some e | .inr _ => some 0) = _
  split
  · rename_i h0; split at h0
    · cases h0
    · cases h0; rfl
  · rename_i h0; split at h0
    · rename_i hz; rw [hz]; rfl
    · cases h0
/-! loops over a list, prefix by prefix -/
theorem pre_loop {α τ β : Type} (R : List α) (T : List α → τ) (J : List α → Prop) {f : τ → Option (Lp τ β)} (o : β)
    (h1 : ∀ xs v ys, R = xs ++ v :: ys → J xs → (f (T xs) = some (.next (T (xs ++ [v]))) ∧ J (xs ++ [v])) ∨ f (T xs) = some (.out o))
    (h2 : J R → f (T R) = some (.out o)) (h0 : J []) : loopO f (T []) = some o := by
  have key : ∀ ys xs, R = xs ++ ys → J xs → loopO f (T xs) = some o := by
    intro ys
    induction ys with
    | nil =>
      intro xs h hJ
      rw [List.append_nil] at h; subst h
      rw [loopO_eq, h2 hJ]; rfl
    | cons v ys ih =>
      intro xs h hJ
      rcases h1 xs v ys h hJ with ⟨h3, h4⟩ | h3
      · rw [loopO_eq, h3]
        exact ih (xs ++ [v]) (by rw [h, List.append_assoc]; rfl) h4
      · rw [loopO_eq, h3]; rfl
  exact key R [] rfl h0
theorem idx_mid {α : Type} {R xs ys : List α} {v : α} (h : R = xs ++ v :: ys) : idx R (xs.length : Int) = some v := by
  subst h
  rw [idx_nat (by simp)]
  simp
theorem idx_mid_map {α β : Type} {R xs ys : List α} {v : α} (g : α → β) (h : R = xs ++ v :: ys) : idx (R.map g) (xs.length : Int) = some (g v) := by
  subst h
  rw [idx_nat (by simp)]
  simp
theorem len_lt {α : Type} {R xs ys : List α} {v : α} (h : R = xs ++ v :: ys) : xs.length < R.length := by subst h; simp
theorem len_snoc {α : Type} (xs : List α) (v : α) (h : (xs.length : Int) ≤ 1000) : IntKind.wrap .i64 ((xs.length : Int) + 1) = ((xs ++ [v]).length : Int) := by
  rw [wrap64 (by omega) (by omega)]; simp
theorem cut_mid {α : Type} (A M Z : List α) {lo hi : Int} (h1 : lo = (A.length : Int)) (h2 : hi = lo + (M.length : Int)) : cutL (A ++ (M ++ Z)) lo hi = some M := by
  subst h1; subst h2
  rw [cutL_eq (by omega) (by omega) (by simp only [List.length_append]; omega)]
  have : ((A.length : Int) + (M.length : Int)).toNat - (A.length : Int).toNat = M.length := by omega
  rw [this, Int.toNat_natCast, List.drop_left, List.take_left]
theorem cut_min {α : Type} (l : List α) (k : Nat) : cutL l 0 (mnI (l.length : Int) (k : Int)) = some (l.take k) := by
  rw [mnI_eq, cutL_eq (by omega) (by omega) (by omega)]
  have : (min (l.length : Int) (k : Int)).toNat = min l.length k := by omega
  simp only [Int.toNat_zero, List.drop_zero, Nat.sub_zero, this]
  congr 1
  by_cases h : k ≤ l.length
  · rw [Nat.min_eq_right h]
  · rw [Nat.min_eq_left (by omega), List.take_of_length_le (by omega), List.take_of_length_le (by omega)]
/-- the words -/
def WW : List (List UInt8) := [[65, 68, 68], [79, 82], [65, 68, 67], [83, 66, 66], [65, 78, 68], [83, 85, 66], [88, 79, 82], [67, 77, 80], [80, 85, 83, 72], [80, 79, 80], [68, 65, 65], [68, 65, 83], [65, 65, 65], [65, 65, 83], [73, 78, 67], [68, 69, 67], [74, 79], [74, 78, 79], [74, 66], [74, 78, 66], [74, 90], [74, 78, 90], [74, 66, 69], [74, 65], [74, 83], [74, 78, 83], [74, 80], [74, 78, 80], [74, 76], [74, 71, 69], [74, 76, 69], [74, 71], [84, 69, 83, 84], [88, 67, 72, 71], [77, 79, 86], [76, 69, 65], [67, 66, 87], [67, 87, 68], [67, 65, 76, 76], [67, 65, 76, 76, 70], [87, 65, 73, 84], [80, 85, 83, 72, 70], [80, 79, 80, 70], [83, 65, 72, 70], [76, 65, 72, 70], [77, 79, 86, 83, 66], [77, 79, 86, 83, 87], [67, 77, 80, 83, 66], [67, 77, 80, 83, 87], [83, 84, 79, 83, 66], [83, 84, 79, 83, 87], [76, 79, 68, 83, 66], [76, 79, 68, 83, 87], [83, 67, 65, 83, 66], [83, 67, 65, 83, 87], [82, 69, 84], [82, 69, 84, 70], [76, 69, 83], [76, 68, 83], [73, 78, 84], [73, 78, 84, 79], [73, 82, 69, 84], [82, 79, 76], [82, 79, 82], [82, 67, 76], [82, 67, 82], [83, 72, 76], [83, 72, 82], [83, 65, 82], [65, 65, 77], [65, 65, 68], [88, 76, 65, 84], [69, 83, 67], [76, 79, 79, 80, 78, 90], [76, 79, 79, 80, 90], [76, 79, 79, 80], [74, 67, 88, 90], [73, 78], [79, 85, 84], [74, 77, 80], [74, 77, 80, 70], [72, 76, 84], [67, 77, 67], [78, 79, 84], [78, 69, 71], [77, 85, 76], [73, 77, 85, 76], [68, 73, 86], [73, 68, 73, 86], [67, 76, 67], [83, 84, 67], [67, 76, 73], [83, 84, 73], [67, 76, 68], [83, 84, 68]]
def DNM : List UInt8 := [65, 68, 68, 32, 79, 82, 32, 65, 68, 67, 32, 83, 66, 66, 32, 65, 78, 68, 32, 83, 85, 66, 32, 88, 79, 82, 32, 67, 77, 80, 32, 80, 85, 83, 72, 32, 80, 79, 80, 32, 68, 65, 65, 32, 68, 65, 83, 32, 65, 65, 65, 32, 65, 65, 83, 32, 73, 78, 67, 32, 68, 69, 67, 32, 74, 79, 32, 74, 78, 79, 32, 74, 66, 32, 74, 78, 66, 32, 74, 90, 32, 74, 78, 90, 32, 74, 66, 69, 32, 74, 65, 32, 74, 83, 32, 74, 78, 83, 32, 74, 80, 32, 74, 78, 80, 32, 74, 76, 32, 74, 71, 69, 32, 74, 76, 69, 32, 74, 71, 32, 84, 69, 83, 84, 32, 88, 67, 72, 71, 32, 77, 79, 86, 32, 76, 69, 65, 32, 67, 66, 87, 32, 67, 87, 68, 32, 67, 65, 76, 76, 32, 67, 65, 76, 76, 70, 32, 87, 65, 73, 84, 32, 80, 85, 83, 72, 70, 32, 80, 79, 80, 70, 32, 83, 65, 72, 70, 32, 76, 65, 72, 70, 32, 77, 79, 86, 83, 66, 32, 77, 79, 86, 83, 87, 32, 67, 77, 80, 83, 66, 32, 67, 77, 80, 83, 87, 32, 83, 84, 79, 83, 66, 32, 83, 84, 79, 83, 87, 32, 76, 79, 68, 83, 66, 32, 76, 79, 68, 83, 87, 32, 83, 67, 65, 83, 66, 32, 83, 67, 65, 83, 87, 32, 82, 69, 84, 32, 82, 69, 84, 70, 32, 76, 69, 83, 32, 76, 68, 83, 32, 73, 78, 84, 32, 73, 78, 84, 79, 32, 73, 82, 69, 84, 32, 82, 79, 76, 32, 82, 79, 82, 32, 82, 67, 76, 32, 82, 67, 82, 32, 83, 72, 76, 32, 83, 72, 82, 32, 83, 65, 82, 32, 65, 65, 77, 32, 65, 65, 68, 32, 88, 76, 65, 84, 32, 69, 83, 67, 32, 76, 79, 79, 80, 78, 90, 32, 76, 79, 79, 80, 90, 32, 76, 79, 79, 80, 32, 74, 67, 88, 90, 32, 73, 78, 32, 79, 85, 84, 32, 74, 77, 80, 32, 74, 77, 80, 70, 32, 72, 76, 84, 32, 67, 77, 67, 32, 78, 79, 84, 32, 78, 69, 71, 32, 77, 85, 76, 32, 73, 77, 85, 76, 32, 68, 73, 86, 32, 73, 68, 73, 86, 32, 67, 76, 67, 32, 83, 84, 67, 32, 67, 76, 73, 32, 83, 84, 73, 32, 67, 76, 68, 32, 83, 84, 68]
def RNM : List UInt8 := [65, 68, 68, 32, 79, 82, 32, 65, 68, 67, 32, 83, 66, 66, 32, 65, 78, 68, 32, 83, 85, 66, 32, 88, 79, 82, 32, 67, 77, 80, 32, 80, 85, 83, 72, 32, 80, 79, 80, 32, 68, 65, 65, 32, 68, 65, 83, 32, 65, 65, 65, 32, 65, 65, 83, 32, 73, 78, 67, 32, 68, 69, 67, 32, 74, 79, 32, 74, 78, 79, 32, 74, 66, 32, 74, 78, 66, 32, 74, 90, 32, 74, 78, 90, 32, 74, 66, 69, 32, 74, 65, 32, 74, 83, 32, 74, 78, 83, 32, 74, 80, 32, 74, 78, 80, 32, 74, 76, 32, 74, 71, 69, 32, 74, 76, 69, 32, 74, 71, 32, 84, 69, 83, 84, 32, 88, 67, 72, 71, 32, 77, 79, 86, 32, 76, 69, 65, 32, 67, 66, 87, 32, 67, 87, 68, 32, 67, 65, 76, 76, 32, 67, 65, 76, 76, 70, 32, 87, 65, 73, 84, 32, 80, 85, 83, 72, 70, 32, 80, 79, 80, 70, 32, 83, 65, 72, 70, 32, 76, 65, 72, 70, 32, 77, 79, 86, 83, 66, 32, 77, 79, 86, 83, 87, 32, 67, 77, 80, 83, 66, 32, 67, 77, 80, 83, 87, 32, 83, 84, 79, 83, 66, 32, 83, 84, 79, 83, 87, 32, 76, 79, 68, 83, 66, 32, 76, 79, 68, 83, 87, 32, 83, 67, 65, 83, 66, 32, 83, 67, 65, 83, 87, 32, 82, 69, 84, 32, 82, 69, 84, 70, 32, 76, 69, 83, 32, 76, 68, 83, 32, 73, 78, 84, 32, 73, 78, 84, 79, 32, 73, 82, 69, 84, 32, 82, 79, 76, 32, 82, 79, 82, 32, 82, 67, 76, 32, 82, 67, 82, 32, 83, 72, 76, 32, 83, 72, 82, 32, 83, 65, 82, 32, 65, 65, 77, 32, 65, 65, 68, 32, 88, 76, 65, 84, 32, 69, 83, 67, 32, 76, 79, 79, 80, 78, 90, 32, 76, 79, 79, 80, 90, 32, 76, 79, 79, 80, 32, 74, 67, 88, 90, 32, 73, 78, 32, 79, 85, 84, 32, 74, 77, 80, 32, 74, 77, 80, 70, 32, 72, 76, 84, 32, 67, 77, 67, 32, 78, 79, 84, 32, 78, 69, 71, 32, 77, 85, 76, 32, 73, 77, 85, 76, 32, 68, 73, 86, 32, 73, 68, 73, 86, 32, 67, 76, 67, 32, 83, 84, 67, 32, 67, 76, 73, 32, 83, 84, 73, 32, 67, 76, 68, 32, 83, 84, 68, 32]
theorem RNM_len : RNM.length ≤ 100000 := by
  rw [show RNM.length = 416 by kernel_rfl]; omega
theorem fields_names : strings_Fields DNM = some WW := by
  unfold strings_Fields
  exact if_pos rfl
/-- a text's words -/
def spl : List UInt8 → List UInt8 → List (List UInt8)
  | [], _ => []
  | c :: r, cur => if c.toNat = 32 then cur :: spl r [] else spl r (cur ++ [c])
def fiN (p : List UInt8 → Bool) : List (List UInt8) → Nat → Nat
  | [], _ => 0
  | x :: r, n => if p x then n else fiN p r (n + 1)
theorem fiN_cons (p : List UInt8 → Bool) (x : List UInt8) (r : List (List UInt8)) (n : Nat) : fiN p (x :: r) n = if p x then n else fiN p r (n + 1) := rfl
theorem fnd_spl (w : List UInt8) : ∀ (s cur : List UInt8) (n : Nat), fndU w s cur n = fiN (· == w) (spl s cur) n
  | [], cur, n => rfl
  | c :: r, cur, n => by
    unfold fndU spl
    by_cases h : c.toNat = 32
    · rw [if_pos h, if_pos h]
      unfold fiN
      by_cases e : cur = w
      · rw [if_pos e, if_pos (by simpa using e)]
      · rw [if_neg e, if_neg (by simpa using e)]; exact fnd_spl w r [] (n + 1)
    · rw [if_neg h, if_neg h]; exact fnd_spl w r _ n
theorem spl_names : spl RNM [] = WW := by kernel_rfl
theorem WW_len : WW.length = 95 := by kernel_rfl
theorem dfind (t : List UInt8) : disp_Find t = some ((fiN (· == t) WW 1 : Nat) : Int) := by
  unfold disp_Find
  show ((strings_Fields DNM).bind _) = _
  rw [fields_names, Option.bind_some]
  have key : loopO (fun x : Int => disp_Find_l6 t WW (WW.length : Int) x) 0 = some (if fiN (· == t) WW 1 = 0 then .inr () else .inl ((fiN (· == t) WW 1 : Nat) : Int)) := by
    refine pre_loop WW (fun xs => (xs.length : Int)) (fun xs => fiN (· == t) WW 1 = fiN (· == t) (WW.drop xs.length) (xs.length + 1)) _ (fun xs v ys e hJ => ?_) (fun hJ => ?_) rfl
    · have hl := len_lt e
      have hL := WW_len
      have hd : WW.drop xs.length = v :: ys := by rw [e]; simp
      rw [hd, fiN_cons] at hJ
      have step : disp_Find_l6 t WW (WW.length : Int) (xs.length : Int) = if v == t then some (.out (.inl ((xs.length + 1 : Nat) : Int))) else some (.next ((xs ++ [v]).length : Int)) := by
        unfold disp_Find_l6
        rw [if_pos (by simpa using hl), idx_mid e, Option.bind_some, len_snoc xs v (by omega)]
        have : ((xs ++ [v]).length : Int) = ((xs.length + 1 : Nat) : Int) := by simp
        rw [this]
      by_cases c : v == t
      · right
        rw [if_pos c] at hJ
        show disp_Find_l6 t WW (WW.length : Int) (xs.length : Int) = _
        rw [step, if_pos c, hJ, if_neg (by omega)]
      · left
        rw [if_neg c] at hJ
        refine ⟨by show disp_Find_l6 t WW (WW.length : Int) (xs.length : Int) = _; rw [step, if_neg c], ?_⟩
        have : WW.drop (xs ++ [v]).length = ys := by rw [e]; simp
        rw [this, hJ]; simp
    · show disp_Find_l6 t WW (WW.length : Int) (WW.length : Int) = _
      have hd : WW.drop WW.length = [] := by simp
      rw [hd] at hJ
      unfold disp_Find_l6
      rw [if_neg (by simp), hJ]; rfl
  rw [key]
  by_cases c : fiN (· == t) WW 1 = 0
  · rw [if_pos c, c]; rfl
  · rw [if_neg c]; rfl
theorem rfind (t : List UInt8) : hansomref04_Find t = some ((fiN (· == t) WW 1 : Nat) : Int) := by
  unfold hansomref04_Find
  show ((hansomref04_find RNM t).bind _) = _
  rw [find_spec RNM t RNM_len, fnd_spl, spl_names]; rfl
theorem fiN_le (p : List UInt8 → Bool) : ∀ (l : List (List UInt8)) (n : Nat), fiN p l n = 0 ∨ (n ≤ fiN p l n ∧ fiN p l n < n + l.length ∧ ∃ x, l[fiN p l n - n]? = some x ∧ p x = true)
  | [], n => .inl rfl
  | x :: r, n => by
    unfold fiN
    by_cases c : p x
    · rw [if_pos c]
      exact .inr ⟨Nat.le_refl _, by simp, x, by simp, c⟩
    · rw [if_neg c]
      rcases fiN_le p r (n + 1) with h | ⟨h1, h2, y, h3, h4⟩
      · exact .inl h
      · refine .inr ⟨by omega, by simp only [List.length_cons]; omega, y, ?_, h4⟩
        rw [show fiN p r (n + 1) - n = (fiN p r (n + 1) - (n + 1)) + 1 from by omega, List.getElem?_cons_succ]
        exact h3
theorem nth_eq {l : List UInt8} {L : List (List UInt8)} (hf : strings_Fields l = some L) (n : Int) : disp_nth l n = some (if n < 0 ∨ n ≥ (L.length : Int) then [63] else (L[n.toNat]?).getD []) := by
  unfold disp_nth
  rw [hf, Option.bind_some]
  by_cases c : n < 0
  · rw [if_pos (by simpa using c), if_pos (.inl c)]
  · rw [if_neg (by simpa using c)]
    by_cases d : n ≥ (L.length : Int)
    · rw [if_pos (by simpa using d), if_pos (.inr d)]
    · rw [if_neg (by simpa using d), if_neg (by omega), idx_eq (by omega) (by omega), List.getElem?_eq_getElem (by omega)]; rfl
theorem of_eq (L : List (List UInt8)) (n : Int) : hansomref17_of L n = some (if n < 0 ∨ n ≥ (L.length : Int) then [63] else (L[n.toNat]?).getD []) := by
  unfold hansomref17_of
  by_cases c : n < 0
  · rw [if_pos (by simpa using c), if_pos (.inl c)]
  · rw [if_neg (by simpa using c)]
    by_cases d : n ≥ (L.length : Int)
    · rw [if_pos (by simpa using d), if_pos (.inr d)]
    · rw [if_neg (by simpa using d), if_neg (by omega), idx_eq (by omega) (by omega), List.getElem?_eq_getElem (by omega)]; rfl
def nameW (n : Int) : List UInt8 := if n < 1 ∨ n > 95 then [63] else (WW[(n - 1).toNat]?).getD []
theorem dname (n : Int) (w : wfI .i64 n) : disp_Name n = some (nameW n) := by
  unfold disp_Name
  show ((disp_nth DNM (IntKind.wrap .i64 (n - 1))).bind _) = _
  rw [nth_eq fields_names, Option.bind_some]
  have hL := WW_len
  obtain ⟨w0, w1⟩ := wfI_i64.1 w
  unfold nameW
  rw [hL]
  by_cases c : n = -9223372036854775808
  · subst c; rfl
  · rw [wrap64 (n := n - 1) (by omega) (by omega)]
    by_cases d : n < 1 ∨ n > 95
    · rw [if_pos d, if_pos (by omega)]
    · rw [if_neg d, if_neg (by omega)]
theorem words_ok : ((List.range 95).all fun k => wordU RNM k == (WW[k]?).getD []) = true := by kernel_rfl
theorem names_ok : ((List.range 95).all fun k => fiN (· == (WW[k]?).getD []) WW 1 == k + 1) = true := by kernel_rfl
theorem rname (n : Int) : hansomref04_Name n = some (nameW n) := by
  unfold hansomref04_Name nameW
  by_cases c : n < 1
  · rw [if_pos (by simpa using c), if_pos (.inl c)]
  · rw [if_neg (by simpa using c)]
    by_cases d : n > 95
    · rw [if_pos (by simpa using d), if_pos (.inr d)]
    · rw [if_neg (by simpa using d), if_neg (by omega), wrap64 (n := n - 1) (by omega) (by omega)]
      obtain ⟨k, hk⟩ := Int.eq_ofNat_of_zero_le (show 0 ≤ n - 1 by omega)
      rw [hk]
      show ((hansomref04_word RNM (k : Int)).bind _) = _
      rw [word_spec RNM k RNM_len (by omega), Option.bind_some, Int.toNat_natCast]
      have := List.all_eq_true.1 words_ok k (List.mem_range.2 (by omega))
      rw [eq_of_beq this]
theorem fields_r : strings_Fields ([65, 88, 32, 67, 88, 32, 68, 88, 32, 66, 88, 32, 83, 80, 32, 66, 80, 32, 83, 73, 32, 68, 73] : List UInt8) = some [[65, 88], [67, 88], [68, 88], [66, 88], [83, 80], [66, 80], [83, 73], [68, 73]] := by kernel_rfl
theorem fields_b : strings_Fields ([65, 76, 32, 67, 76, 32, 68, 76, 32, 66, 76, 32, 65, 72, 32, 67, 72, 32, 68, 72, 32, 66, 72] : List UInt8) = some [[65, 76], [67, 76], [68, 76], [66, 76], [65, 72], [67, 72], [68, 72], [66, 72]] := by kernel_rfl
theorem fields_s : strings_Fields ([69, 83, 32, 67, 83, 32, 83, 83, 32, 68, 83] : List UInt8) = some [[69, 83], [67, 83], [83, 83], [68, 83]] := by kernel_rfl
theorem awk : hansomlaw17_awake = some true := by
  unfold hansomlaw17_awake
  have h1 : disp_Text ({ Lock := false, Rep := 0, Seg := 0, Op := 144, Mod := 0, Reg := 0, RM := 0, Disp := 0, Imm := 0, Sel := 0 } : Inst) = some [88, 67, 72, 71, 32, 65, 88, 44, 65, 88] := if_pos rfl
  have h2 : fiN (· == ([83, 84, 68] : List UInt8)) WW 1 = 95 := by kernel_rfl
  have h3 : nameW 32 = [74, 71] := by kernel_rfl
  rw [h1, Option.bind_some, dfind, h2, Option.bind_some, dname 32 (wfI_i64.2 ⟨by omega, by omega⟩), h3]
  rfl
end Go.Es.Dsn
