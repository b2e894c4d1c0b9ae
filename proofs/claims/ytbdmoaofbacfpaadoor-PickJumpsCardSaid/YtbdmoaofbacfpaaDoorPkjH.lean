/- What the functions answer, in plain Lean. No condition. -/
import Derived.Test.YtbdmoaofbacfpaaDoorPkjP
import Derived.KernelRfl
set_option linter.unusedVariables false
set_option linter.unusedSimpArgs false
set_option maxHeartbeats 4000000
set_option maxRecDepth 100000
namespace Go.Es.Pkj
/-! loops over a list, prefix by prefix -/
theorem pre_loop {α τ β : Type} (R : List α) (T : List α → τ) (J : List α → Prop) {f : τ → Option (Lp τ β)} (o : β)
    (h1 : ∀ xs v ys, R = xs ++ v :: ys → J xs → (f (T xs) = some (.next (T (xs ++ [v]))) ∧ J (xs ++ [v])) ∨ f (T xs) = some (.out o))
    (h2 : J R → f (T R) = some (.out o)) (h0 : J []) : loopO f (T []) = some o := by
  have key : ∀ ys xs, R = xs ++ ys → J xs → loopO f (T xs) = some o := by
    intro ys
    induction ys with
    | nil =>
      intro xs h hJ
      rw [List.append_nil] at h; subst h
      rw [loopO_eq, h2 hJ]; rfl
    | cons v ys ih =>
      intro xs h hJ
      rcases h1 xs v ys h hJ with ⟨h3, h4⟩ | h3
      · rw [loopO_eq, h3]
        exact ih (xs ++ [v]) (by rw [h, List.append_assoc]; rfl) h4
      · rw [loopO_eq, h3]; rfl
  exact key R [] rfl h0
theorem idx_mid {α : Type} {R xs ys : List α} {v : α} (h : R = xs ++ v :: ys) : idx R (xs.length : Int) = some v := by
  subst h
  rw [idx_nat (by simp)]
  simp
theorem idx_mid_map {α β : Type} {R xs ys : List α} {v : α} (g : α → β) (h : R = xs ++ v :: ys) : idx (R.map g) (xs.length : Int) = some (g v) := by
  subst h
  rw [idx_nat (by simp)]
  simp
theorem len_lt {α : Type} {R xs ys : List α} {v : α} (h : R = xs ++ v :: ys) : xs.length < R.length := by subst h; simp
theorem len_snoc {α : Type} (xs : List α) (v : α) (h : (xs.length : Int) ≤ 1000) : IntKind.wrap .i64 ((xs.length : Int) + 1) = ((xs ++ [v]).length : Int) := by
  rw [wrap64 (by omega) (by omega)]; simp
theorem cut_mid {α : Type} (A M Z : List α) {lo hi : Int} (h1 : lo = (A.length : Int)) (h2 : hi = lo + (M.length : Int)) : cutL (A ++ (M ++ Z)) lo hi = some M := by
  subst h1; subst h2
  rw [cutL_eq (by omega) (by omega) (by simp only [List.length_append]; omega)]
  have : ((A.length : Int) + (M.length : Int)).toNat - (A.length : Int).toNat = M.length := by omega
  rw [this, Int.toNat_natCast, List.drop_left, List.take_left]
/-- the words -/
def WW : List (List UInt8) := [[65, 68, 68], [79, 82], [65, 68, 67], [83, 66, 66], [65, 78, 68], [83, 85, 66], [88, 79, 82], [67, 77, 80], [80, 85, 83, 72], [80, 79, 80], [68, 65, 65], [68, 65, 83], [65, 65, 65], [65, 65, 83], [73, 78, 67], [68, 69, 67], [74, 79], [74, 78, 79], [74, 66], [74, 78, 66], [74, 90], [74, 78, 90], [74, 66, 69], [74, 65], [74, 83], [74, 78, 83], [74, 80], [74, 78, 80], [74, 76], [74, 71, 69], [74, 76, 69], [74, 71], [84, 69, 83, 84], [88, 67, 72, 71], [77, 79, 86], [76, 69, 65], [67, 66, 87], [67, 87, 68], [67, 65, 76, 76], [67, 65, 76, 76, 70], [87, 65, 73, 84], [80, 85, 83, 72, 70], [80, 79, 80, 70], [83, 65, 72, 70], [76, 65, 72, 70], [77, 79, 86, 83, 66], [77, 79, 86, 83, 87], [67, 77, 80, 83, 66], [67, 77, 80, 83, 87], [83, 84, 79, 83, 66], [83, 84, 79, 83, 87], [76, 79, 68, 83, 66], [76, 79, 68, 83, 87], [83, 67, 65, 83, 66], [83, 67, 65, 83, 87], [82, 69, 84], [82, 69, 84, 70], [76, 69, 83], [76, 68, 83], [73, 78, 84], [73, 78, 84, 79], [73, 82, 69, 84], [82, 79, 76], [82, 79, 82], [82, 67, 76], [82, 67, 82], [83, 72, 76], [83, 72, 82], [83, 65, 82], [65, 65, 77], [65, 65, 68], [88, 76, 65, 84], [69, 83, 67], [76, 79, 79, 80, 78, 90], [76, 79, 79, 80, 90], [76, 79, 79, 80], [74, 67, 88, 90], [73, 78], [79, 85, 84], [74, 77, 80], [74, 77, 80, 70], [72, 76, 84], [67, 77, 67], [78, 79, 84], [78, 69, 71], [77, 85, 76], [73, 77, 85, 76], [68, 73, 86], [73, 68, 73, 86], [67, 76, 67], [83, 84, 67], [67, 76, 73], [83, 84, 73], [67, 76, 68], [83, 84, 68]]
def DNM : List UInt8 := [65, 68, 68, 32, 79, 82, 32, 65, 68, 67, 32, 83, 66, 66, 32, 65, 78, 68, 32, 83, 85, 66, 32, 88, 79, 82, 32, 67, 77, 80, 32, 80, 85, 83, 72, 32, 80, 79, 80, 32, 68, 65, 65, 32, 68, 65, 83, 32, 65, 65, 65, 32, 65, 65, 83, 32, 73, 78, 67, 32, 68, 69, 67, 32, 74, 79, 32, 74, 78, 79, 32, 74, 66, 32, 74, 78, 66, 32, 74, 90, 32, 74, 78, 90, 32, 74, 66, 69, 32, 74, 65, 32, 74, 83, 32, 74, 78, 83, 32, 74, 80, 32, 74, 78, 80, 32, 74, 76, 32, 74, 71, 69, 32, 74, 76, 69, 32, 74, 71, 32, 84, 69, 83, 84, 32, 88, 67, 72, 71, 32, 77, 79, 86, 32, 76, 69, 65, 32, 67, 66, 87, 32, 67, 87, 68, 32, 67, 65, 76, 76, 32, 67, 65, 76, 76, 70, 32, 87, 65, 73, 84, 32, 80, 85, 83, 72, 70, 32, 80, 79, 80, 70, 32, 83, 65, 72, 70, 32, 76, 65, 72, 70, 32, 77, 79, 86, 83, 66, 32, 77, 79, 86, 83, 87, 32, 67, 77, 80, 83, 66, 32, 67, 77, 80, 83, 87, 32, 83, 84, 79, 83, 66, 32, 83, 84, 79, 83, 87, 32, 76, 79, 68, 83, 66, 32, 76, 79, 68, 83, 87, 32, 83, 67, 65, 83, 66, 32, 83, 67, 65, 83, 87, 32, 82, 69, 84, 32, 82, 69, 84, 70, 32, 76, 69, 83, 32, 76, 68, 83, 32, 73, 78, 84, 32, 73, 78, 84, 79, 32, 73, 82, 69, 84, 32, 82, 79, 76, 32, 82, 79, 82, 32, 82, 67, 76, 32, 82, 67, 82, 32, 83, 72, 76, 32, 83, 72, 82, 32, 83, 65, 82, 32, 65, 65, 77, 32, 65, 65, 68, 32, 88, 76, 65, 84, 32, 69, 83, 67, 32, 76, 79, 79, 80, 78, 90, 32, 76, 79, 79, 80, 90, 32, 76, 79, 79, 80, 32, 74, 67, 88, 90, 32, 73, 78, 32, 79, 85, 84, 32, 74, 77, 80, 32, 74, 77, 80, 70, 32, 72, 76, 84, 32, 67, 77, 67, 32, 78, 79, 84, 32, 78, 69, 71, 32, 77, 85, 76, 32, 73, 77, 85, 76, 32, 68, 73, 86, 32, 73, 68, 73, 86, 32, 67, 76, 67, 32, 83, 84, 67, 32, 67, 76, 73, 32, 83, 84, 73, 32, 67, 76, 68, 32, 83, 84, 68]
def RNM : List UInt8 := [65, 68, 68, 32, 79, 82, 32, 65, 68, 67, 32, 83, 66, 66, 32, 65, 78, 68, 32, 83, 85, 66, 32, 88, 79, 82, 32, 67, 77, 80, 32, 80, 85, 83, 72, 32, 80, 79, 80, 32, 68, 65, 65, 32, 68, 65, 83, 32, 65, 65, 65, 32, 65, 65, 83, 32, 73, 78, 67, 32, 68, 69, 67, 32, 74, 79, 32, 74, 78, 79, 32, 74, 66, 32, 74, 78, 66, 32, 74, 90, 32, 74, 78, 90, 32, 74, 66, 69, 32, 74, 65, 32, 74, 83, 32, 74, 78, 83, 32, 74, 80, 32, 74, 78, 80, 32, 74, 76, 32, 74, 71, 69, 32, 74, 76, 69, 32, 74, 71, 32, 84, 69, 83, 84, 32, 88, 67, 72, 71, 32, 77, 79, 86, 32, 76, 69, 65, 32, 67, 66, 87, 32, 67, 87, 68, 32, 67, 65, 76, 76, 32, 67, 65, 76, 76, 70, 32, 87, 65, 73, 84, 32, 80, 85, 83, 72, 70, 32, 80, 79, 80, 70, 32, 83, 65, 72, 70, 32, 76, 65, 72, 70, 32, 77, 79, 86, 83, 66, 32, 77, 79, 86, 83, 87, 32, 67, 77, 80, 83, 66, 32, 67, 77, 80, 83, 87, 32, 83, 84, 79, 83, 66, 32, 83, 84, 79, 83, 87, 32, 76, 79, 68, 83, 66, 32, 76, 79, 68, 83, 87, 32, 83, 67, 65, 83, 66, 32, 83, 67, 65, 83, 87, 32, 82, 69, 84, 32, 82, 69, 84, 70, 32, 76, 69, 83, 32, 76, 68, 83, 32, 73, 78, 84, 32, 73, 78, 84, 79, 32, 73, 82, 69, 84, 32, 82, 79, 76, 32, 82, 79, 82, 32, 82, 67, 76, 32, 82, 67, 82, 32, 83, 72, 76, 32, 83, 72, 82, 32, 83, 65, 82, 32, 65, 65, 77, 32, 65, 65, 68, 32, 88, 76, 65, 84, 32, 69, 83, 67, 32, 76, 79, 79, 80, 78, 90, 32, 76, 79, 79, 80, 90, 32, 76, 79, 79, 80, 32, 74, 67, 88, 90, 32, 73, 78, 32, 79, 85, 84, 32, 74, 77, 80, 32, 74, 77, 80, 70, 32, 72, 76, 84, 32, 67, 77, 67, 32, 78, 79, 84, 32, 78, 69, 71, 32, 77, 85, 76, 32, 73, 77, 85, 76, 32, 68, 73, 86, 32, 73, 68, 73, 86, 32, 67, 76, 67, 32, 83, 84, 67, 32, 67, 76, 73, 32, 83, 84, 73, 32, 67, 76, 68, 32, 83, 84, 68, 32]
theorem fields_names : strings_Fields DNM = some WW := by
  unfold strings_Fields
  exact if_pos rfl
/-- a text's words -/
def spl : List UInt8 → List UInt8 → List (List UInt8)
  | [], _ => []
  | c :: r, cur => if c.toNat = 32 then cur :: spl r [] else spl r (cur ++ [c])
def fiN (p : List UInt8 → Bool) : List (List UInt8) → Nat → Nat
  | [], _ => 0
  | x :: r, n => if p x then n else fiN p r (n + 1)
theorem fiN_cons (p : List UInt8 → Bool) (x : List UInt8) (r : List (List UInt8)) (n : Nat) : fiN p (x :: r) n = if p x then n else fiN p r (n + 1) := rfl
theorem WW_len : WW.length = 95 := by kernel_rfl
theorem dfind (t : List UInt8) : disp_Find t = some ((fiN (· == t) WW 1 : Nat) : Int) := by
  unfold disp_Find
  show ((strings_Fields DNM).bind _) = _
  rw [fields_names, Option.bind_some]
  have key : loopO (fun x : Int => disp_Find_l6 t WW (WW.length : Int) x) 0 = some (if fiN (· == t) WW 1 = 0 then .inr () else .inl ((fiN (· == t) WW 1 : Nat) : Int)) := by
    refine pre_loop WW (fun xs => (xs.length : Int)) (fun xs => fiN (· == t) WW 1 = fiN (· == t) (WW.drop xs.length) (xs.length + 1)) _ (fun xs v ys e hJ => ?_) (fun hJ => ?_) rfl
    · have hl := len_lt e
      have hL := WW_len
      have hd : WW.drop xs.length = v :: ys := by rw [e]; simp
      rw [hd, fiN_cons] at hJ
      have step : disp_Find_l6 t WW (WW.length : Int) (xs.length : Int) = if v == t then some (.out (.inl ((xs.length + 1 : Nat) : Int))) else some (.next ((xs ++ [v]).length : Int)) := by
        unfold disp_Find_l6
        rw [if_pos (by simpa using hl), idx_mid e, Option.bind_some, len_snoc xs v (by omega)]
        have : ((xs ++ [v]).length : Int) = ((xs.length + 1 : Nat) : Int) := by simp
        rw [this]
      by_cases c : v == t
      · right
        rw [if_pos c] at hJ
        show disp_Find_l6 t WW (WW.length : Int) (xs.length : Int) = _
        rw [step, if_pos c, hJ, if_neg (by omega)]
      · left
        rw [if_neg c] at hJ
        refine ⟨by show disp_Find_l6 t WW (WW.length : Int) (xs.length : Int) = _; rw [step, if_neg c], ?_⟩
        have : WW.drop (xs ++ [v]).length = ys := by rw [e]; simp
        rw [this, hJ]; simp
    · show disp_Find_l6 t WW (WW.length : Int) (WW.length : Int) = _
      have hd : WW.drop WW.length = [] := by simp
      rw [hd] at hJ
      unfold disp_Find_l6
      rw [if_neg (by simp), hJ]; rfl
  rw [key]
  by_cases c : fiN (· == t) WW 1 = 0
  · rw [if_pos c, c]; rfl
  · rw [if_neg c]; rfl
theorem fiN_le (p : List UInt8 → Bool) : ∀ (l : List (List UInt8)) (n : Nat), fiN p l n = 0 ∨ (n ≤ fiN p l n ∧ fiN p l n < n + l.length ∧ ∃ x, l[fiN p l n - n]? = some x ∧ p x = true)
  | [], n => .inl rfl
  | x :: r, n => by
    unfold fiN
    by_cases c : p x
    · rw [if_pos c]
      exact .inr ⟨Nat.le_refl _, by simp, x, by simp, c⟩
    · rw [if_neg c]
      rcases fiN_le p r (n + 1) with h | ⟨h1, h2, y, h3, h4⟩
      · exact .inl h
      · refine .inr ⟨by omega, by simp only [List.length_cons]; omega, y, ?_, h4⟩
        rw [show fiN p r (n + 1) - n = (fiN p r (n + 1) - (n + 1)) + 1 from by omega, List.getElem?_cons_succ]
        exact h3
def nameW (n : Int) : List UInt8 := if n < 1 ∨ n > 95 then [63] else (WW[(n - 1).toNat]?).getD []
theorem names_ok : ((List.range 95).all fun k => fiN (· == (WW[k]?).getD []) WW 1 == k + 1) = true := by kernel_rfl
/-! what a function with a fuel answers, the function answers -/
def LeO {α : Type} (a b : Option α) : Prop := ∀ r, a = some r → b = some r
theorem LeO.rfl {α : Type} {a : Option α} : LeO a a := fun _ h => h
theorem LeO.bind {α β : Type} {a b : Option α} {f g : α → Option β} (h : LeO a b) (k : ∀ x, LeO (f x) (g x)) : LeO (a.bind f) (b.bind g) := by
  intro r hr
  obtain ⟨x, hx, hy⟩ := Option.bind_eq_some_iff.1 hr
  rw [h x hx, Option.bind_some]; exact k x r hy
theorem LeO.ite {α : Type} {c : Prop} [Decidable c] {a b a' b' : Option α} (h1 : LeO a b) (h2 : LeO a' b') : LeO (if c then a else a') (if c then b else b') := by
  by_cases h : c
  · rw [if_pos h, if_pos h]; exact h1
  · rw [if_neg h, if_neg h]; exact h2
theorem loopN_le {α β : Type} {f g : α → Option (Lp α β)} (h : ∀ x, LeO (f x) (g x)) : ∀ (n : Nat) (x : α), LeO (loopN f n x) (loopN g n x)
  | 0, _ => fun _ hr => by cases hr
  | n + 1, x => by
    intro r hr
    unfold loopN at hr ⊢
    obtain ⟨y, hy, hz⟩ := Option.bind_eq_some_iff.1 hr
    rw [h x y hy, Option.bind_some]
    cases y with
    | next y => exact loopN_le h n y r hz
    | out b => exact hz
theorem LeO.loop {α β : Type} {f g : α → Option (Lp α β)} {n : Nat} {x : α} (h : ∀ x, LeO (f x) (g x)) : LeO (loopN f n x) (loopO g x) :=
  fun r hr => loopO_iff.2 ⟨n, loopN_le h n x r hr⟩
noncomputable def pick_sizedk (r_ : Row) (ops_ : (A2 Operand)) : Option Bool :=
  (loopN (fun x : Int => pick_sized_l6 r_ ops_ ({ a0 := r_.A, a1 := r_.B } : (A2 Int)) x) 3000 0).bind fun e_1 =>
  match e_1 with
  | .inl e_2 =>
    some e_2
  | .inr e_3 =>
    some true
theorem pick_sizedk_le (r_ : Row) (ops_ : (A2 Operand)) : LeO (pick_sizedk r_ ops_) (pick_sized r_ ops_) := by
  unfold pick_sizedk pick_sized
  repeat' (first | with_reducible exact LeO.rfl | with_reducible apply LeO.ite | with_reducible apply LeO.bind | with_reducible apply LeO.loop | exact LeO.rfl | intro _)
noncomputable def pick_build_j10k (r6 : Row) (ops7 : (A2 Operand)) (b_8 : Choice) (c9 : Choice) : Option Choice :=
  (loopN (fun x : (Choice × Int) => pick_build_l14 ops7 b_8 x.1 ({ a0 := r6.A, a1 := r6.B } : (A2 Int)) x.2) 3000 (c9, 0)).bind fun e_1 =>
  some e_1
theorem pick_build_j10k_le (r6 : Row) (ops7 : (A2 Operand)) (b_8 : Choice) (c9 : Choice) : LeO (pick_build_j10k r6 ops7 b_8 c9) (pick_build_j10 r6 ops7 b_8 c9) := by
  unfold pick_build_j10k pick_build_j10
  repeat' (first | with_reducible exact LeO.rfl | with_reducible apply LeO.ite | with_reducible apply LeO.bind | with_reducible apply LeO.loop | exact LeO.rfl | intro _)
noncomputable def pick_buildk (first_ : Int) (reg_ : Int) (r_ : Row) (ops_ : (A2 Operand)) : Option Choice :=
  if r_.Mod then
    (isa_Grouped first_).bind fun r_1 =>
    if r_1 then
      pick_build_j10k ({ r_ with Mod := true } : Row) ops_ ({ I := ({ Lock := false, Rep := 0, Seg := 0, Op := 0, Mod := 0, Reg := 0, RM := 0, Disp := 0, Imm := 0, Sel := 0 } : Inst), Disp := ({ N := 0, From := 0, Which := 0, Type_ := 0, Wants := 0, Known := false } : api_Value), Imm := ({ N := 0, From := 0, Which := 0, Type_ := 0, Wants := 0, Known := false } : api_Value), HasD := false, HasI := false, Jumps := false } : Choice) ({ I := ({ Lock := false, Rep := 0, Seg := 0, Op := first_, Mod := 0, Reg := reg_, RM := 0, Disp := 0, Imm := 0, Sel := 0 } : Inst), Disp := ({ N := 0, From := 0, Which := 0, Type_ := 0, Wants := 0, Known := false } : api_Value), Imm := ({ N := 0, From := 0, Which := 0, Type_ := 0, Wants := 0, Known := false } : api_Value), HasD := false, HasI := false, Jumps := false } : Choice)
    else
      pick_build_j10k ({ r_ with Mod := true } : Row) ops_ ({ I := ({ Lock := false, Rep := 0, Seg := 0, Op := 0, Mod := 0, Reg := 0, RM := 0, Disp := 0, Imm := 0, Sel := 0 } : Inst), Disp := ({ N := 0, From := 0, Which := 0, Type_ := 0, Wants := 0, Known := false } : api_Value), Imm := ({ N := 0, From := 0, Which := 0, Type_ := 0, Wants := 0, Known := false } : api_Value), HasD := false, HasI := false, Jumps := false } : Choice) ({ I := ({ Lock := false, Rep := 0, Seg := 0, Op := first_, Mod := 0, Reg := 0, RM := 0, Disp := 0, Imm := 0, Sel := 0 } : Inst), Disp := ({ N := 0, From := 0, Which := 0, Type_ := 0, Wants := 0, Known := false } : api_Value), Imm := ({ N := 0, From := 0, Which := 0, Type_ := 0, Wants := 0, Known := false } : api_Value), HasD := false, HasI := false, Jumps := false } : Choice)
  else
    pick_build_j10k ({ r_ with Mod := false } : Row) ops_ ({ I := ({ Lock := false, Rep := 0, Seg := 0, Op := 0, Mod := 0, Reg := 0, RM := 0, Disp := 0, Imm := 0, Sel := 0 } : Inst), Disp := ({ N := 0, From := 0, Which := 0, Type_ := 0, Wants := 0, Known := false } : api_Value), Imm := ({ N := 0, From := 0, Which := 0, Type_ := 0, Wants := 0, Known := false } : api_Value), HasD := false, HasI := false, Jumps := false } : Choice) ({ I := ({ Lock := false, Rep := 0, Seg := 0, Op := first_, Mod := 0, Reg := 0, RM := 0, Disp := 0, Imm := 0, Sel := 0 } : Inst), Disp := ({ N := 0, From := 0, Which := 0, Type_ := 0, Wants := 0, Known := false } : api_Value), Imm := ({ N := 0, From := 0, Which := 0, Type_ := 0, Wants := 0, Known := false } : api_Value), HasD := false, HasI := false, Jumps := false } : Choice)
theorem pick_buildk_le (first_ : Int) (reg_ : Int) (r_ : Row) (ops_ : (A2 Operand)) : LeO (pick_buildk first_ reg_ r_ ops_) (pick_build first_ reg_ r_ ops_) := by
  unfold pick_buildk pick_build
  repeat' (first | with_reducible exact LeO.rfl | with_reducible apply pick_build_j10k_le | with_reducible apply LeO.ite | with_reducible apply LeO.bind | with_reducible apply LeO.loop | exact LeO.rfl | intro _)
noncomputable def inst_behindk (i_ : Inst) (r_ : Row) : Option Bool :=
  (loopN (fun x : Int => inst_behind_l6 i_ r_ ({ a0 := r_.A, a1 := r_.B } : (A2 Int)) x) 3000 0).bind fun e_1 =>
  match e_1 with
  | .inl e_2 =>
    some e_2
  | .inr e_3 =>
    if (i_.Imm == 0) then
      some (i_.Sel == 0)
    else
      some false
theorem inst_behindk_le (i_ : Inst) (r_ : Row) : LeO (inst_behindk i_ r_) (inst_behind i_ r_) := by
  unfold inst_behindk inst_behind
  repeat' (first | with_reducible exact LeO.rfl | with_reducible apply LeO.ite | with_reducible apply LeO.bind | with_reducible apply LeO.loop | exact LeO.rfl | intro _)
noncomputable def inst_Mayk (i_ : Inst) : Option Bool :=
  (inst_Row i_).bind fun r_1 =>
  if r_1.2 then
    (inst_second i_ r_1.1).bind fun r_2 =>
    if r_2 then
      (inst_behindk i_ r_1.1).bind fun r_3 =>
      if r_3 then
        (inst_prefixes i_ r_1.1).bind fun r_4 =>
        some r_4
      else
        some false
    else
      some false
  else
    some false
theorem inst_Mayk_le (i_ : Inst) : LeO (inst_Mayk i_) (inst_May i_) := by
  unfold inst_Mayk inst_May
  repeat' (first | with_reducible exact LeO.rfl | with_reducible apply inst_behindk_le | with_reducible apply LeO.ite | with_reducible apply LeO.bind | with_reducible apply LeO.loop | exact LeO.rfl | intro _)
noncomputable def inst_Lenk (i_ : Inst) : Option Int :=
  (inst_Mayk i_).bind fun r_1 =>
  if (!r_1) then
    some 0
  else
    (inst_Row i_).bind fun r_2 =>
    (inst_Imms r_2.1).bind fun r_3 =>
    if i_.Lock then
      inst_Len_j20 ({ i_ with Lock := true } : Inst) r_2.1 (IntKind.wrap .i64 ((IntKind.wrap .i64 (1 + r_3)) + 1))
    else
      inst_Len_j20 ({ i_ with Lock := false } : Inst) r_2.1 (IntKind.wrap .i64 (1 + r_3))
theorem inst_Lenk_le (i_ : Inst) : LeO (inst_Lenk i_) (inst_Len i_) := by
  unfold inst_Lenk inst_Len
  repeat' (first | with_reducible exact LeO.rfl | with_reducible apply inst_Mayk_le | with_reducible apply LeO.ite | with_reducible apply LeO.bind | with_reducible apply LeO.loop | exact LeO.rfl | intro _)
noncomputable def pick_sorted_l20k (out3 : (List Choice)) (l0 : (List Choice)) (n4 : Int) (t11 : (List Choice)) (t12 : Int) (t13 : Int) : Option (Lp ((List Choice) × Int) (List Choice)) :=
  if (decide (t13 < t12)) then
    (idx t11 t13).bind fun z_1 =>
    (inst_Lenk z_1.I).bind fun r_1 =>
    if (r_1 == n4) then
      (grow 168 out3 ([z_1] : List Choice)).bind fun z_2 =>
      some (.next (z_2, (IntKind.wrap .i64 (t13 + 1))))
    else
      some (.next (out3, (IntKind.wrap .i64 (t13 + 1))))
  else
    some (.out out3)
theorem pick_sorted_l20k_le (out3 : (List Choice)) (l0 : (List Choice)) (n4 : Int) (t11 : (List Choice)) (t12 : Int) (t13 : Int) : LeO (pick_sorted_l20k out3 l0 n4 t11 t12 t13) (pick_sorted_l20 out3 l0 n4 t11 t12 t13) := by
  unfold pick_sorted_l20k pick_sorted_l20
  repeat' (first | with_reducible exact LeO.rfl | with_reducible apply inst_Lenk_le | with_reducible apply LeO.ite | with_reducible apply LeO.bind | with_reducible apply LeO.loop | exact LeO.rfl | intro _)
noncomputable def pick_sorted_l8k (out3 : (List Choice)) (l0 : (List Choice)) (n4 : Int) : Option (Lp ((List Choice) × Int) (List Choice)) :=
  if (decide (n4 ≤ 12)) then
    (loopN (fun x : ((List Choice) × Int) => pick_sorted_l20k x.1 l0 n4 l0 (l0.length : Int) x.2) 3000 (out3, 0)).bind fun e_1 =>
    some (.next (e_1, (IntKind.wrap .i64 (n4 + 1))))
  else
    some (.out out3)
theorem pick_sorted_l8k_le (out3 : (List Choice)) (l0 : (List Choice)) (n4 : Int) : LeO (pick_sorted_l8k out3 l0 n4) (pick_sorted_l8 out3 l0 n4) := by
  unfold pick_sorted_l8k pick_sorted_l8
  repeat' (first | with_reducible exact LeO.rfl | with_reducible apply pick_sorted_l20k_le | with_reducible apply LeO.ite | with_reducible apply LeO.bind | with_reducible apply LeO.loop | exact LeO.rfl | intro _)
noncomputable def pick_sortedk (l_ : (List Choice)) : Option (List Choice) :=
  (loopN (fun x : ((List Choice) × Int) => pick_sorted_l8k x.1 l_ x.2) 3000 (([] : List Choice), 1)).bind fun e_1 =>
  some e_1
theorem pick_sortedk_le (l_ : (List Choice)) : LeO (pick_sortedk l_) (pick_sorted l_) := by
  unfold pick_sortedk pick_sorted
  repeat' (first | with_reducible exact LeO.rfl | with_reducible apply pick_sorted_l8k_le | with_reducible apply LeO.ite | with_reducible apply LeO.bind | with_reducible apply LeO.loop | exact LeO.rfl | intro _)
noncomputable def pick_All_j27k (ops3 : (A2 Operand)) (out5 : (List Choice)) (name0 : Int) (first7 : Int) (reg8 : Int) (t12 : Int) : Option (Lp ((List Choice) × Int) (List Choice)) :=
  (isa_Of first7 reg8).bind fun r_3 =>
  if (!r_3.2) then
    some (.next (out5, (IntKind.wrap .i64 (t12 + 1))))
  else
    if (r_3.1.Name != name0) then
      some (.next (out5, (IntKind.wrap .i64 (t12 + 1))))
    else
      (pick_Fits r_3.1.A ops3.a0 first7).bind fun r_4 =>
      if (!r_4) then
        some (.next (out5, (IntKind.wrap .i64 (t12 + 1))))
      else
        (pick_Fits r_3.1.B ops3.a1 first7).bind fun r_5 =>
        if (!r_5) then
          some (.next (out5, (IntKind.wrap .i64 (t12 + 1))))
        else
          (pick_sizedk r_3.1 ops3).bind fun r_6 =>
          if (!r_6) then
            some (.next (out5, (IntKind.wrap .i64 (t12 + 1))))
          else
            (pick_buildk first7 reg8 r_3.1 ops3).bind fun r_7 =>
            (inst_Mayk r_7.I).bind fun r_8 =>
            if r_8 then
              (grow 168 out5 ([r_7] : List Choice)).bind fun z_1 =>
              some (.next (z_1, (IntKind.wrap .i64 (t12 + 1))))
            else
              some (.next (out5, (IntKind.wrap .i64 (t12 + 1))))
theorem pick_All_j27k_le (ops3 : (A2 Operand)) (out5 : (List Choice)) (name0 : Int) (first7 : Int) (reg8 : Int) (t12 : Int) : LeO (pick_All_j27k ops3 out5 name0 first7 reg8 t12) (pick_All_j27 ops3 out5 name0 first7 reg8 t12) := by
  unfold pick_All_j27k pick_All_j27
  repeat' (first | with_reducible exact LeO.rfl | with_reducible apply pick_sizedk_le | with_reducible apply pick_buildk_le | with_reducible apply inst_Mayk_le | with_reducible apply LeO.ite | with_reducible apply LeO.bind | with_reducible apply LeO.loop | exact LeO.rfl | intro _)
noncomputable def pick_All_l8k (ops3 : (A2 Operand)) (out5 : (List Choice)) (name0 : Int) (t12 : Int) : Option (Lp ((List Choice) × Int) (List Choice)) :=
  if (decide (t12 < 2048)) then
    if (decide ((bitsOp .and .i64 t12 7) > 0)) then
      (isa_Grouped (IntKind.wrap .u8 (shrI .i64 t12 3))).bind fun r_1 =>
      if (!r_1) then
        some (.next (out5, (IntKind.wrap .i64 (t12 + 1))))
      else
        (isa_Prefix (IntKind.wrap .u8 (shrI .i64 t12 3))).bind fun r_2 =>
        if r_2 then
          some (.next (out5, (IntKind.wrap .i64 (t12 + 1))))
        else
          pick_All_j27k ops3 out5 name0 (IntKind.wrap .u8 (shrI .i64 t12 3)) (bitsOp .and .i64 t12 7) t12
    else
      (isa_Prefix (IntKind.wrap .u8 (shrI .i64 t12 3))).bind fun r_9 =>
      if r_9 then
        some (.next (out5, (IntKind.wrap .i64 (t12 + 1))))
      else
        pick_All_j27k ops3 out5 name0 (IntKind.wrap .u8 (shrI .i64 t12 3)) (bitsOp .and .i64 t12 7) t12
  else
    some (.out out5)
theorem pick_All_l8k_le (ops3 : (A2 Operand)) (out5 : (List Choice)) (name0 : Int) (t12 : Int) : LeO (pick_All_l8k ops3 out5 name0 t12) (pick_All_l8 ops3 out5 name0 t12) := by
  unfold pick_All_l8k pick_All_l8
  repeat' (first | with_reducible exact LeO.rfl | with_reducible apply pick_All_j27k_le | with_reducible apply LeO.ite | with_reducible apply LeO.bind | with_reducible apply LeO.loop | exact LeO.rfl | intro _)
noncomputable def pick_Allk (name_ : Int) (ops_ : (A2 Operand)) : Option (List Choice) :=
  (loopN (fun x : ((List Choice) × Int) => pick_All_l8k ops_ x.1 name_ x.2) 3000 (([] : List Choice), 0)).bind fun e_1 =>
  (pick_sortedk e_1).bind fun r_1 =>
  some r_1
theorem pick_Allk_le (name_ : Int) (ops_ : (A2 Operand)) : LeO (pick_Allk name_ ops_) (pick_All name_ ops_) := by
  unfold pick_Allk pick_All
  repeat' (first | with_reducible exact LeO.rfl | with_reducible apply pick_sortedk_le | with_reducible apply pick_All_l8k_le | with_reducible apply LeO.ite | with_reducible apply LeO.bind | with_reducible apply LeO.loop | exact LeO.rfl | intro _)
/-- another word's name -/
def alT : List (List UInt8 × List UInt8) := [([74, 69], [74, 90]), ([74, 78, 69], [74, 78, 90]), ([74, 67], [74, 66]), ([74, 78, 65, 69], [74, 66]), ([74, 78, 67], [74, 78, 66]), ([74, 65, 69], [74, 78, 66]), ([74, 78, 65], [74, 66, 69]), ([74, 78, 66, 69], [74, 65]), ([74, 80, 69], [74, 80]), ([74, 80, 79], [74, 78, 80]), ([74, 78, 71, 69], [74, 76]), ([74, 78, 76], [74, 71, 69]), ([74, 78, 71], [74, 76, 69]), ([74, 78, 76, 69], [74, 71]), ([76, 79, 79, 80, 69], [76, 79, 79, 80, 90]), ([76, 79, 79, 80, 78, 69], [76, 79, 79, 80, 78, 90]), ([83, 65, 76], [83, 72, 76])]
def alU (s : List UInt8) : List UInt8 := (((alT.find? fun p => p.1 == s).map (·.2)).getD s)
def alk : List (List UInt8) := alT.map (·.1)
theorem al_hit : (alT.all fun p => pick_alias p.1 == some p.2) = true := by kernel_rfl
theorem al_none (s : List UInt8) (h : alk.contains s = false) : pick_alias s = some s := by
  unfold alk alT at h
  simp only [List.map_cons, List.map_nil, List.contains_cons, List.contains_nil, Bool.or_eq_false_iff, Bool.or_false] at h
  obtain ⟨h1, h2, h3, h4, h5, h6, h7, h8, h9, h10, h11, h12, h13, h14, h15, h16, h17⟩ := h
  unfold pick_alias pick_alias_j24 pick_alias_j34
  simp only [h1, h2, h3, h4, h5, h6, h7, h8, h9, h10, h11, h12, h13, h14, h15, h16, h17, Bool.false_eq_true, if_false, ite_self]
theorem alU_miss (s : List UInt8) (h : alk.contains s = false) : alU s = s := by
  have : alT.find? (fun p => p.1 == s) = none := by
    rw [List.find?_eq_none]
    intro p hp hc
    have : alk.contains s = true := by rw [List.contains_iff_mem]; exact List.mem_map.2 ⟨p, hp, eq_of_beq hc⟩
    rw [h] at this; cases this
  unfold alU; rw [this]; rfl
theorem alias_eq (s : List UInt8) : pick_alias s = some (alU s) := by
  cases h : alk.contains s with
  | false => rw [al_none s h, alU_miss s h]
  | true =>
    rw [List.contains_iff_mem] at h
    obtain ⟨p, hp, rfl⟩ := List.mem_map.1 h
    have h1 := List.all_eq_true.1 al_hit p hp
    have h2 : (alT.all fun p => alU p.1 == p.2) = true := by kernel_rfl
    rw [eq_of_beq h1, eq_of_beq (List.all_eq_true.1 h2 p hp)]
def other (k : Nat) : Int := if k = 80 then 81 else if k = 39 then 40 else 0
theorem pfind (s : List UInt8) : pick_Find s = some (((fiN (· == alU s) WW 1 : Nat) : Int), other (fiN (· == alU s) WW 1)) := by
  unfold pick_Find
  rw [alias_eq, Option.bind_some, dfind, Option.bind_some]
  generalize fiN (· == alU s) WW 1 = k
  unfold other
  by_cases h : k = 80
  · subst h; rfl
  · rw [if_neg (by simp; omega), if_neg h]
    by_cases h' : k = 39
    · subst h'; rfl
    · rw [if_neg (by simp; omega), if_neg h']
def opsI : A2 Operand := ({ a0 := ({ Kind := 2, N := 0, RM := 0, V := ({ N := 0, From := 0, Which := 0, Type_ := 0, Wants := 0, Known := false } : api_Value), Type_ := 0, Over := 0, Short := false } : Operand), a1 := ({ Kind := 0, N := 0, RM := 0, V := ({ N := 0, From := 0, Which := 0, Type_ := 0, Wants := 0, Known := false } : api_Value), Type_ := 0, Over := 0, Short := false } : Operand) } : (A2 Operand))
def opsM : A2 Operand := ({ a0 := ({ Kind := 3, N := 1, RM := 0, V := ({ N := 0, From := 0, Which := 0, Type_ := 0, Wants := 0, Known := false } : api_Value), Type_ := 0, Over := 0, Short := false } : Operand), a1 := ({ Kind := 2, N := 0, RM := 0, V := ({ N := 0, From := 0, Which := 0, Type_ := 0, Wants := 0, Known := false } : api_Value), Type_ := 0, Over := 0, Short := false } : Operand) } : (A2 Operand))
/-- a choice of one byte, of this value and that jump -/
def chI (op : Int) : Choice := { I := { Lock := false, Rep := 0, Seg := 0, Op := op, Mod := 0, Reg := 0, RM := 0, Disp := 0, Imm := 0, Sel := 0 }, Disp := { N := 0, From := 0, Which := 0, Type_ := 0, Wants := 0, Known := false }, Imm := { N := 0, From := 0, Which := 0, Type_ := 0, Wants := 0, Known := false }, HasD := false, HasI := false, Jumps := false }
def chG (op mod reg : Int) : Choice := { I := { Lock := false, Rep := 0, Seg := 0, Op := op, Mod := mod, Reg := reg, RM := 0, Disp := 0, Imm := 0, Sel := 0 }, Disp := { N := 0, From := 0, Which := 0, Type_ := 0, Wants := 0, Known := false }, Imm := { N := 0, From := 0, Which := 0, Type_ := 0, Wants := 0, Known := false }, HasD := false, HasI := false, Jumps := false }
theorem all_mov : pick_All 35 opsM = some [] := pick_Allk_le _ _ _ (by kernel_rfl)
theorem all_inc : pick_All 15 opsI = some [chI 64, chG 255 3 0] := pick_Allk_le _ _ _ (by kernel_rfl)
theorem awk : hansomlaw34_awake = some true := by
  unfold hansomlaw34_awake
  show ((pick_Pick _ opsI false).bind fun r_1 => ((pick_Pick _ opsM false).bind _)) = _
  have h1 : pick_Pick ([73, 78, 67] : List UInt8) opsI false = some (chI 64, 0) := by
    unfold pick_Pick
    rw [pfind, show alU ([73, 78, 67] : List UInt8) = [73, 78, 67] by kernel_rfl, show fiN (· == ([73, 78, 67] : List UInt8)) WW 1 = 15 by kernel_rfl, Option.bind_some]
    show ((pick_All 15 opsI).bind _) = _
    rw [all_inc]; kernel_rfl
  have h2 : pick_Pick ([77, 79, 86] : List UInt8) opsM false = some (chI 0, 6) := by
    unfold pick_Pick
    rw [pfind, show alU ([77, 79, 86] : List UInt8) = [77, 79, 86] by kernel_rfl, show fiN (· == ([77, 79, 86] : List UInt8)) WW 1 = 35 by kernel_rfl, Option.bind_some]
    show ((pick_All 35 opsM).bind _) = _
    rw [all_mov]; kernel_rfl
  rw [h1, Option.bind_some, h2]; rfl
/-- an operand that is a place -/
def vJ (n : Int) : api_Value := { N := n, From := 1, Which := 1, Type_ := 101, Wants := 0, Known := true }
def oJ (n t : Int) (s : Bool) : A2 Operand := { a0 := { Kind := 4, N := 0, RM := 8, V := vJ n, Type_ := t, Over := 0, Short := s }, a1 := { Kind := 0, N := 0, RM := 0, V := { N := 0, From := 0, Which := 0, Type_ := 0, Wants := 0, Known := false }, Type_ := 0, Over := 0, Short := false } }
def cJ (n op : Int) (j : Bool) : Choice := { I := { Lock := false, Rep := 0, Seg := 0, Op := op, Mod := 0, Reg := 0, RM := 0, Disp := 0, Imm := 0, Sel := 0 }, Disp := { N := 0, From := 0, Which := 0, Type_ := 0, Wants := 0, Known := false }, Imm := vJ n, HasD := false, HasI := true, Jumps := j }
theorem j80 (n : Int) : pick_All 80 (oJ n 101 false) = some [cJ n 235 true, cJ n 233 true] := pick_Allk_le _ _ _ (by kernel_rfl)
theorem j81 (n : Int) : pick_All 81 (oJ n 101 false) = some [] := pick_Allk_le _ _ _ (by kernel_rfl)
theorem j21 (n : Int) : pick_All 21 (oJ n 101 false) = some [cJ n 116 true] := pick_Allk_le _ _ _ (by kernel_rfl)
theorem j39 (n : Int) : pick_All 39 (oJ n 101 false) = some [cJ n 232 true] := pick_Allk_le _ _ _ (by kernel_rfl)
theorem j40 (n : Int) : pick_All 40 (oJ n 101 false) = some [] := pick_Allk_le _ _ _ (by kernel_rfl)
theorem s39 (n : Int) : pick_All 39 (oJ n 101 true) = some [] := pick_Allk_le _ _ _ (by kernel_rfl)
theorem s40 (n : Int) : pick_All 40 (oJ n 101 true) = some [] := pick_Allk_le _ _ _ (by kernel_rfl)
theorem f80 (n : Int) : pick_All 80 (oJ n 102 false) = some [] := pick_Allk_le _ _ _ (by kernel_rfl)
theorem f81 (n : Int) : pick_All 81 (oJ n 102 false) = some [cJ n 234 false] := pick_Allk_le _ _ _ (by kernel_rfl)
theorem f21 (n : Int) : pick_All 21 (oJ n 102 false) = some [] := pick_Allk_le _ _ _ (by kernel_rfl)
theorem f39 (n : Int) : pick_All 39 (oJ n 102 false) = some [] := pick_Allk_le _ _ _ (by kernel_rfl)
theorem f40 (n : Int) : pick_All 40 (oJ n 102 false) = some [cJ n 154 false] := pick_Allk_le _ _ _ (by kernel_rfl)
theorem g39 (n : Int) : pick_All 39 (oJ n 102 true) = some [] := pick_Allk_le _ _ _ (by kernel_rfl)
theorem g40 (n : Int) : pick_All 40 (oJ n 102 true) = some [] := pick_Allk_le _ _ _ (by kernel_rfl)
theorem f_jmp : pick_Find ([74, 77, 80] : List UInt8) = some (80, 81) := by
  rw [pfind, show alU ([74, 77, 80] : List UInt8) = [74, 77, 80] by kernel_rfl, show fiN (· == ([74, 77, 80] : List UInt8)) WW 1 = 80 by kernel_rfl]; rfl
theorem f_jz : pick_Find ([74, 90] : List UInt8) = some (21, 0) := by
  rw [pfind, show alU ([74, 90] : List UInt8) = [74, 90] by kernel_rfl, show fiN (· == ([74, 90] : List UInt8)) WW 1 = 21 by kernel_rfl]; rfl
theorem f_call : pick_Find ([67, 65, 76, 76] : List UInt8) = some (39, 40) := by
  rw [pfind, show alU ([67, 65, 76, 76] : List UInt8) = [67, 65, 76, 76] by kernel_rfl, show fiN (· == ([67, 65, 76, 76] : List UInt8)) WW 1 = 39 by kernel_rfl]; rfl
theorem p_jmp (n : Int) (long : Bool) : pick_Pick ([74, 77, 80] : List UInt8) (oJ n 101 false) long = some (cJ n (if long then 233 else 235) true, 0) := by
  unfold pick_Pick
  rw [f_jmp, Option.bind_some]
  show ((pick_All 80 _).bind _) = _
  rw [j80, Option.bind_some]
  show ((pick_All 81 _).bind _) = _
  rw [j81, Option.bind_some, grow_eq (by simp) (by simp), Option.bind_some]
  cases long <;> rfl
theorem p_jz (n : Int) (long : Bool) : pick_Pick ([74, 90] : List UInt8) (oJ n 101 false) long = some (cJ n 116 true, 0) := by
  unfold pick_Pick
  rw [f_jz, Option.bind_some]
  show ((pick_All 21 _).bind _) = _
  rw [j21, Option.bind_some]
  cases long <;> rfl
theorem p_call (n : Int) (long : Bool) : pick_Pick ([67, 65, 76, 76] : List UInt8) (oJ n 101 false) long = some (cJ n 232 true, 0) := by
  unfold pick_Pick
  rw [f_call, Option.bind_some]
  show ((pick_All 39 _).bind _) = _
  rw [j39, Option.bind_some]
  show ((pick_All 40 _).bind _) = _
  rw [j40, Option.bind_some, grow_eq (by simp) (by simp), Option.bind_some]
  cases long <;> rfl
theorem p_shrt (n : Int) : pick_Pick ([67, 65, 76, 76] : List UInt8) (oJ n 101 true) false = some (chI 0, 6) := by
  unfold pick_Pick
  rw [f_call, Option.bind_some]
  show ((pick_All 39 _).bind _) = _
  rw [s39, Option.bind_some]
  show ((pick_All 40 _).bind _) = _
  rw [s40, Option.bind_some, grow_eq (by simp) (by simp), Option.bind_some]
  rfl
theorem q_jmp (n : Int) (long : Bool) : pick_Pick ([74, 77, 80] : List UInt8) (oJ n 102 false) long = some (cJ n 234 false, 0) := by
  unfold pick_Pick
  rw [f_jmp, Option.bind_some]
  show ((pick_All 80 _).bind _) = _
  rw [f80, Option.bind_some]
  show ((pick_All 81 _).bind _) = _
  rw [f81, Option.bind_some, grow_eq (by simp) (by simp), Option.bind_some]
  cases long <;> rfl
theorem q_jz (n : Int) (long : Bool) : pick_Pick ([74, 90] : List UInt8) (oJ n 102 false) long = some (chI 0, 6) := by
  unfold pick_Pick
  rw [f_jz, Option.bind_some]
  show ((pick_All 21 _).bind _) = _
  rw [f21, Option.bind_some]
  cases long <;> rfl
theorem q_call (n : Int) (long : Bool) : pick_Pick ([67, 65, 76, 76] : List UInt8) (oJ n 102 false) long = some (cJ n 154 false, 0) := by
  unfold pick_Pick
  rw [f_call, Option.bind_some]
  show ((pick_All 39 _).bind _) = _
  rw [f39, Option.bind_some]
  show ((pick_All 40 _).bind _) = _
  rw [f40, Option.bind_some, grow_eq (by simp) (by simp), Option.bind_some]
  cases long <;> rfl
theorem q_shrt (n : Int) : pick_Pick ([67, 65, 76, 76] : List UInt8) (oJ n 102 true) false = some (chI 0, 6) := by
  unfold pick_Pick
  rw [f_call, Option.bind_some]
  show ((pick_All 39 _).bind _) = _
  rw [g39, Option.bind_some]
  show ((pick_All 40 _).bind _) = _
  rw [g40, Option.bind_some, grow_eq (by simp) (by simp), Option.bind_some]
  rfl
end Go.Es.Pkj
