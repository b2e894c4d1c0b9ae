/- What the functions answer, in plain Lean. No condition. -/
import Derived.Test.YtikbjljifgadmaaPlnP
set_option linter.unusedVariables false
set_option linter.unusedSimpArgs false
set_option maxHeartbeats 1000000
set_option maxRecDepth 100000
namespace Go.Es.Pln
abbrev F0 : Fixup := { At := 0, Loc := 0, Self := false, Frame := 0, FrameN := 0, Target := 0, N := 0, Disp := 0 }
abbrev Z0 : Module := { Name := [], Notes := [], Names := [], Segs := [], Groups := [], Exts := [], Pubs := [], Datas := [], Main := false, Is := false, Start := F0 }
abbrev S0 : SegDef := { Align := 1, Combine := 0, Frame := 0, Offset := 0, Len := 8, Name := 0, Class := 0, Overlay := 1 }
/-- what Near makes of nothing -/
abbrev M0 : Module := { Name := [], Notes := [], Names := [[]], Segs := [S0], Groups := [], Exts := [], Pubs := [], Datas := [], Main := false, Is := false, Start := F0 }
theorem near0 : hansomref26_Near Z0 = some M0 := by
  unfold hansomref26_Near hansomref26_base
  have hc : hansomref26_cut (Z0 : Module).Name = some [] := by kernel_rfl
  rw [hc, Option.bind_some]
  have l10 : ∀ x : Module, hansomref26_base_l10 Z0 x 0 = some (.out x) := fun x => by unfold hansomref26_base_l10; rfl
  have l27 : ∀ (x : Module) (n : Int), hansomref26_base_l27 Z0 x n 0 = some (.out x) := fun x n => by unfold hansomref26_base_l27; rfl
  have l69 : ∀ (x : Module) (n : Int), hansomref26_base_l69 Z0 x n 0 = some (.out x) := fun x n => by unfold hansomref26_base_l69; rfl
  have l8 : ∀ x : Module, hansomref26_Near_l8 Z0 x 0 = some (.out x) := fun x => by unfold hansomref26_Near_l8; rfl
  have l31 : ∀ x : Module, hansomref26_Near_l31 Z0 x 0 = some (.out x) := fun x => by unfold hansomref26_Near_l31; rfl
  have l58 : ∀ (x : Module) (a : A3 Int), hansomref26_Near_l58 Z0 x a 0 = some (.out x) := fun x a => by unfold hansomref26_Near_l58; rfl
  rw [loopO_eq, l10]
  simp only [Option.bind_some]
  rw [loopO_eq, l27]
  simp only [Option.bind_some]
  rw [loopO_eq]
  have l46 : hansomref26_base_l46 Z0 ({ Name := [], Notes := [], Names := [[]], Segs := [], Groups := [], Exts := [], Pubs := [], Datas := [], Main := false, Is := false, Start := F0 } : Module) ((1 : Nat) : Int) 0 = some (.next (M0, 1)) := by kernel_rfl
  have l46' : ∀ x : Module, hansomref26_base_l46 Z0 x ((1 : Nat) : Int) 1 = some (.out x) := fun x => by unfold hansomref26_base_l46; rfl
  simp only [List.length_cons, List.length_nil, Nat.zero_add]
  rw [l46]
  simp only [Option.bind_some]
  rw [loopO_eq, l46']
  simp only [Option.bind_some]
  rw [loopO_eq, l69]
  simp only [Option.bind_some]
  rw [loopO_eq, l8]
  simp only [Option.bind_some]
  rw [loopO_eq, l31]
  simp only [Option.bind_some]
  rw [loopO_eq, l58]
  rfl
abbrev tk (a : List UInt8) : Ext := { Name := a, Com := 0, Len := 0 }
abbrev gv (a : List UInt8) : Pub := { Group := 0, Seg := 1, Frame := 0, Name := a, Off := 0 }
/-- the module that takes a, and what else it takes, and gives -/
abbrev MM (xs : List Ext) (ps : List Pub) : Module := { Name := [], Notes := [], Names := [[]], Segs := [S0], Groups := [], Exts := xs, Pubs := ps, Datas := [], Main := false, Is := false, Start := F0 }
theorem g1E (a : Ext) : grow 32 ([] : List Ext) [a] = some [a] := by rw [grow_eq (by simp) (by simp)]; rfl
theorem g1P (a : Pub) : grow 48 ([] : List Pub) [a] = some [a] := by rw [grow_eq (by simp) (by simp)]; rfl
theorem with_take (a : List UInt8) (gs : List (List UInt8)) : loopO (fun x : (Module × Int) => hansomlaw39_with_l8 x.1 ([] : List Ext) [] false false 0 0 false 0 0 0 0 0 [a] gs x.2) (M0, 0) = some (MM [tk a] []) := by
  have h0 : hansomlaw39_with_l8 M0 ([] : List Ext) [] false false 0 0 false 0 0 0 0 0 [a] gs 0 = some (.next (MM [tk a] [], 1)) := by
    unfold hansomlaw39_with_l8
    rw [if_pos (by simp), show idx [a] 0 = some a from rfl, Option.bind_some, g1E, Option.bind_some]; rfl
  have h1 : hansomlaw39_with_l8 (MM [tk a] []) ([] : List Ext) [] false false 0 0 false 0 0 0 0 0 [a] gs 1 = some (.out (MM [tk a] [])) := by
    unfold hansomlaw39_with_l8
    rw [if_neg (by simp)]
  rw [loopO_eq, h0]
  simp only [Option.bind_some]
  rw [loopO_eq, h1]
  rfl
theorem with0 (a : List UInt8) : hansomlaw39_with [a] [] = some (MM [tk a] []) := by
  unfold hansomlaw39_with
  rw [near0, Option.bind_some, with_take, Option.bind_some]
  have h0 : hansomlaw39_with_l23 (MM [tk a] []) ([] : List Ext) [] false false 0 0 false 0 0 0 0 0 [] 0 = some (.out (MM [tk a] [])) := by
    unfold hansomlaw39_with_l23
    rw [if_neg (by simp)]
  rw [loopO_eq, h0]
  rfl
theorem with1 (a b : List UInt8) : hansomlaw39_with [a] [b] = some (MM [tk a] [gv b]) := by
  unfold hansomlaw39_with
  rw [near0, Option.bind_some, with_take, Option.bind_some]
  have h0 : hansomlaw39_with_l23 (MM [tk a] []) ([] : List Ext) [] false false 0 0 false 0 0 0 0 0 [b] 0 = some (.next (MM [tk a] [gv b], 1)) := by
    unfold hansomlaw39_with_l23
    rw [if_pos (by simp), show idx [b] 0 = some b from rfl, Option.bind_some, g1P, Option.bind_some]; rfl
  have h1 : hansomlaw39_with_l23 (MM [tk a] [gv b]) ([] : List Ext) [] false false 0 0 false 0 0 0 0 0 [b] 1 = some (.out (MM [tk a] [gv b])) := by
    unfold hansomlaw39_with_l23
    rw [if_neg (by simp)]
  rw [loopO_eq, h0]
  simp only [Option.bind_some]
  rw [loopO_eq, h1]
  rfl
noncomputable def nm (n : Int) : List UInt8 := b2s ([(IntKind.wrap .u8 (IntKind.wrap .i64 (65 + (bitsOp .and .i64 n 7))))] : List Int)
theorem name_eq (n : Int) : hansomlaw39_name n = some (nm n) := rfl
noncomputable def has8 (n : Int) : Bool := decide ((bitsOp .and .i64 n 8) > 0)
noncomputable def cx (v : A4 Int) : Ext := { Name := nm v.a2, Com := 98, Len := (IntKind.wrap .u32 (bitsOp .and .i64 v.a3 63)) }
/-- a row's module -/
noncomputable def rowM (v : A4 Int) : Module := MM (tk (nm v.a0) :: (if has8 v.a2 then [cx v] else [])) (if has8 v.a1 then [gv (nm v.a1)] else [])
theorem j25_eq (v : A4 Int) (ps : List Pub) (b : List Module) (l : List (A4 Int)) (i : Int) (hz : idx l i = some v) (hb : b.length ≤ 5) (h0 : 0 ≤ i) (h5 : i < 5) :
    hansomlaw39_mods_j25 (MM [tk (nm v.a0)] ps) b l i = some (.next (b ++ [MM (tk (nm v.a0) :: (if has8 v.a2 then [cx v] else [])) ps], i + 1)) := by
  unfold hansomlaw39_mods_j25
  rw [hz, Option.bind_some]
  have gm : ∀ m : Module, grow 256 b [m] = some (b ++ [m]) := fun m => grow_eq (by simp only [List.length_cons, List.length_nil]; omega) (by simp only [List.length_cons, List.length_nil]; omega)
  have ew : IntKind.wrap .i64 (i + 1) = i + 1 := wrap64 (by omega) (by omega)
  by_cases h : decide ((bitsOp .and .i64 v.a2 8) > 0) = true
  · have h8 : has8 v.a2 = true := h
    rw [if_pos h, Option.bind_some, name_eq, Option.bind_some, Option.bind_some]
    have g2 : grow 32 ([tk (nm v.a0)] : List Ext) [cx v] = some [tk (nm v.a0), cx v] := by rw [grow_eq (by simp) (by simp)]; rfl
    have g3 : grow 32 (MM [tk (nm v.a0)] ps).Exts ([{ Name := nm v.a2, Com := 98, Len := IntKind.wrap .u32 (bitsOp .and .i64 v.a3 63) }] : List Ext) = some [tk (nm v.a0), cx v] := g2
    rw [g3, Option.bind_some, gm, Option.bind_some, ew, h8]
    rfl
  · have h8 : has8 v.a2 = false := by simpa [has8] using h
    rw [if_neg h, gm, Option.bind_some, ew, h8]
    rfl
theorem mods_eq (l : List (A4 Int)) (hl : l.length ≤ maxLen) : hansomlaw39_mods l = some ((l.take 5).map rowM) := by
  unfold hansomlaw39_mods
  obtain ⟨e, h1, h2⟩ := loop_rule (f := fun x : ((List Module) × Int) => hansomlaw39_mods_l8 x.1 l x.2)
    (fun x => 0 ≤ x.2 ∧ x.2 ≤ 5 ∧ x.2 ≤ (l.length : Int) ∧ x.1 = (l.take x.2.toNat).map rowM) (fun x => (5 - x.2).toNat) (fun e => e = (l.take 5).map rowM) (by
      rintro ⟨b, i⟩ ⟨h0, h5, hn, hb⟩
      simp only at h0 h5 hn hb ⊢
      have hbl : b.length ≤ 5 := by rw [hb, List.length_map, List.length_take]; omega
      unfold hansomlaw39_mods_l8
      by_cases c1 : i < (l.length : Int)
      · rw [if_pos (by simpa using c1)]
        by_cases c2 : i < 5
        · rw [if_pos (by simpa using c2)]
          have hz := idx_eq h0 c1
          generalize hv : l[i.toNat]'(by omega) = v at hz
          have htk : l.take (i + 1).toNat = l.take i.toNat ++ [v] := by
            rw [show (i + 1).toNat = i.toNat + 1 from by omega, List.take_add_one, List.getElem?_eq_getElem (by omega), hv]; rfl
          rw [hz, Option.bind_some, name_eq, Option.bind_some, with0, Option.bind_some, Option.bind_some]
          left
          by_cases h : decide ((bitsOp .and .i64 v.a1 8) > 0) = true
          · have h8 : has8 v.a1 = true := h
            rw [if_pos h, Option.bind_some, name_eq, Option.bind_some, Option.bind_some, name_eq, Option.bind_some, with1, Option.bind_some, j25_eq v _ b l i hz hbl h0 c2]
            refine ⟨_, rfl, ⟨by simp only; omega, by simp only; omega, by simp only; omega, ?_⟩, by simp only; omega⟩
            simp only [htk, List.map_append, List.map_cons, List.map_nil, ← hb, rowM, h8, if_true]
          · have h8 : has8 v.a1 = false := by simpa [has8] using h
            rw [if_neg h, j25_eq v _ b l i hz hbl h0 c2]
            refine ⟨_, rfl, ⟨by simp only; omega, by simp only; omega, by simp only; omega, ?_⟩, by simp only; omega⟩
            simp only [htk, List.map_append, List.map_cons, List.map_nil, ← hb, rowM, h8, Bool.false_eq_true, if_false]
        · rw [if_neg (by simpa using c2)]
          have : i = 5 := by omega
          subst this
          exact .inr ⟨b, rfl, hb⟩
      · rw [if_neg (by simpa using c1)]
        refine .inr ⟨b, rfl, ?_⟩
        rw [hb, List.take_of_length_le (by omega), List.take_of_length_le (by omega)]) (x := (([] : List Module), 0)) ⟨by simp, by simp, by simp, by simp⟩
  rw [h1, Option.bind_some, h2]
/-- the first that is so -/
theorem find_loop {α γ : Type} (l : List α) (hl : l.length ≤ 1000) (p : α → Bool) (A : Int → γ) (B : γ) {f : Int → Option (Lp Int γ)}
    (hf : ∀ i, f i = if decide (i < (l.length : Int)) then (idx l i).bind fun z => if p z then some (.out (A i)) else some (.next (IntKind.wrap .i64 (i + 1))) else some (.out B)) :
    loopO f 0 = some (match l.findIdx? p with | some k => A (k : Int) | none => B) := by
  have key := loop_to (f := f) (fun i => match (l.drop i.toNat).findIdx? p with | some k => A (i + k) | none => B) (fun i => 0 ≤ i ∧ i ≤ (l.length : Int)) (fun i => ((l.length : Int) - i).toNat) (by
    rintro i ⟨h0, h1⟩
    rw [hf]
    by_cases c : i < (l.length : Int)
    · have hz := idx_eq h0 c
      generalize hv : l[i.toNat]'(by omega) = v at hz
      have hd : l.drop i.toNat = v :: l.drop (i + 1).toNat := by
        rw [List.drop_eq_getElem_cons (by omega), hv, show (i + 1).toNat = i.toNat + 1 from by omega]
      rw [if_pos (by simpa using c), hz, Option.bind_some]
      by_cases hp : p v = true
      · right
        rw [if_pos hp, hd, List.findIdx?_cons, if_pos hp]
        simp
      · left
        rw [if_neg hp, wrap64 (n := i + 1) (by omega) (by omega)]
        refine ⟨_, rfl, ⟨by omega, by omega⟩, by omega, ?_⟩
        simp only [hd, List.findIdx?_cons, if_neg hp]
        cases (l.drop (i + 1).toNat).findIdx? p with
        | none => rfl
        | some k => simp only [Option.map_some]; congr 1; push_cast; omega
    · right
      have hd : l.drop i.toNat = [] := List.drop_eq_nil_of_le (by omega)
      rw [if_neg (by simpa using c), hd]
      rfl) (x := 0) ⟨by omega, by omega⟩
  rw [key]
  simp only [Int.toNat_zero, List.drop_zero, Int.zero_add]
/-- as find_loop, with something that is handed on -/
theorem find_loop2 {α γ δ : Type} (l : List α) (hl : l.length ≤ 1000) (p : α → Bool) (A : Int → γ) (B : γ) (c : δ) {f : δ × Int → Option (Lp (δ × Int) γ)}
    (hf : ∀ i, f (c, i) = if decide (i < (l.length : Int)) then (idx l i).bind fun z => if p z then some (.out (A i)) else some (.next (c, IntKind.wrap .i64 (i + 1))) else some (.out B)) :
    loopO f (c, 0) = some (match l.findIdx? p with | some k => A (k : Int) | none => B) := by
  have key := loop_to (f := f) (fun x => match (l.drop x.2.toNat).findIdx? p with | some k => A (x.2 + k) | none => B) (fun x => x.1 = c ∧ 0 ≤ x.2 ∧ x.2 ≤ (l.length : Int)) (fun x => ((l.length : Int) - x.2).toNat) (by
    rintro ⟨c', i⟩ ⟨rfl, h0, h1⟩
    simp only at h0 h1 ⊢
    rw [hf]
    by_cases c : i < (l.length : Int)
    · have hz := idx_eq h0 c
      generalize hv : l[i.toNat]'(by omega) = v at hz
      have hd : l.drop i.toNat = v :: l.drop (i + 1).toNat := by
        rw [List.drop_eq_getElem_cons (by omega), hv, show (i + 1).toNat = i.toNat + 1 from by omega]
      rw [if_pos (by simpa using c), hz, Option.bind_some]
      by_cases hp : p v = true
      · right
        rw [if_pos hp, hd, List.findIdx?_cons, if_pos hp]
        simp
      · left
        rw [if_neg hp, wrap64 (n := i + 1) (by omega) (by omega)]
        refine ⟨_, rfl, ⟨rfl, by simp only; omega, by simp only; omega⟩, by simp only; omega, ?_⟩
        simp only [hd, List.findIdx?_cons, if_neg hp]
        cases (l.drop (i + 1).toNat).findIdx? p with
        | none => rfl
        | some k => simp only [Option.map_some]; congr 1; push_cast; omega
    · right
      have hd : l.drop i.toNat = [] := List.drop_eq_nil_of_le (by omega)
      rw [if_neg (by simpa using c), hd]
      rfl) (x := (c, 0)) ⟨rfl, by simp, by simp⟩
  rw [key]
  simp only [Int.toNat_zero, List.drop_zero, Int.zero_add]
/-- the first that is so, or -1 -/
def fi {α : Type} (p : α → Bool) (l : List α) : Int := match l.findIdx? p with | some k => (k : Int) | none => -1
theorem fi_pub (s : List Pub) (b : List UInt8) (hs : s.length ≤ 1000) : slices_IndexFunc_LPub_pool_given_1_1 s b = some (fi (fun z => z.Name == b) s, b) := by
  unfold slices_IndexFunc_LPub_pool_given_1_1
  have h := find_loop s hs (fun z => z.Name == b) (fun i => .inl (i, b)) (.inr ()) (f := fun x : Int => slices_IndexFunc_LPub_pool_given_1_1_l6 b s (s.length : Int) x) (fun i => rfl)
  rw [h, Option.bind_some]
  unfold fi
  cases s.findIdx? (fun z => z.Name == b) <;> rfl
theorem fi_ge {α : Type} (p : α → Bool) (l : List α) : decide (fi p l ≥ 0) = l.any p := by
  unfold fi
  cases h : l.findIdx? p with
  | none =>
    rw [List.findIdx?_eq_none_iff] at h
    have : l.any p = false := by
      rw [List.any_eq_false]
      intro x hx hp
      rw [h x hx] at hp; cases hp
    rw [this]; rfl
  | some k =>
    have hk := List.findIdx?_eq_some_iff_getElem.1 h
    obtain ⟨hlt, hp, _⟩ := hk
    have : l.any p = true := List.any_eq_true.2 ⟨_, List.getElem_mem hlt, hp⟩
    rw [this]
    simp only [decide_eq_true_eq]; omega
theorem given_eq (l : List Module) (b : List UInt8) (hl : l.length ≤ 1000) (hp : ∀ m ∈ l, m.Pubs.length ≤ 1000) : pool_given l b = some (fi (fun m => m.Pubs.any fun z => z.Name == b) l) := by
  unfold pool_given slices_IndexFunc_LModule_pool_given_1
  rw [find_loop2 l hl (fun m => m.Pubs.any fun z => z.Name == b) (fun i => .inl (i, b)) (.inr b) b (fun i => ?_), Option.bind_some]
  · unfold fi
    cases l.findIdx? (fun m => m.Pubs.any fun z => z.Name == b) <;> rfl
  · unfold slices_IndexFunc_LModule_pool_given_1_l6
    by_cases c : i < (l.length : Int)
    · rw [if_pos (by simpa using c), if_pos (by simpa using c)]
      cases hz : idx l i with
      | none => rfl
      | some m =>
        have hm : m ∈ l := List.mem_of_getElem? (idx_some hz).2
        have e : pool_given_1 m b = some (m.Pubs.any (fun z => z.Name == b), b) := by
          unfold pool_given_1 slices_ContainsFunc_LPub_pool_given_1_1
          rw [fi_pub _ _ (hp m hm), Option.bind_some, Option.bind_some, fi_ge]
        simp only [Option.bind_some, e]
    · rw [if_neg (by simpa using c), if_neg (by simpa using c)]
theorem fi_made (s : List Ext) (x : Ext) (hs : s.length ≤ 1000) : slices_IndexFunc_LExt_pool_Made_1 s x = some (fi (fun y => y.Name == x.Name) s, x) := by
  unfold slices_IndexFunc_LExt_pool_Made_1
  have h := find_loop s hs (fun y => y.Name == x.Name) (fun i => .inl (i, x)) (.inr ()) (f := fun i : Int => slices_IndexFunc_LExt_pool_Made_1_l6 x s (s.length : Int) i) (fun i => rfl)
  rw [h, Option.bind_some]
  unfold fi
  cases s.findIdx? (fun y => y.Name == x.Name) <;> rfl
theorem any_lost (s : List Ext) (x : Ext) (hs : s.length ≤ 1000) : slices_ContainsFunc_LExt_pool_Lost_1 s x = some (s.any (fun y => y.Name == x.Name), x) := by
  unfold slices_ContainsFunc_LExt_pool_Lost_1 slices_IndexFunc_LExt_pool_Lost_1
  have h := find_loop s hs (fun y => y.Name == x.Name) (fun i => .inl (i, x)) (.inr ()) (f := fun i : Int => slices_IndexFunc_LExt_pool_Lost_1_l6 x s (s.length : Int) i) (fun i => rfl)
  rw [h, ← fi_ge]
  unfold fi
  cases s.findIdx? (fun y => y.Name == x.Name) <;> rfl
theorem any_str (s : List (List UInt8)) (v : List UInt8) (hs : s.length ≤ 1000) : slices_Contains_Lstring s v = some (s.any (fun z => v == z)) := by
  unfold slices_Contains_Lstring slices_Index_Lstring
  have h := find_loop s hs (fun z => v == z) (fun i => .inl i) (.inr ()) (f := fun i : Int => slices_Index_Lstring_l6 s v (s.length : Int) i) (fun i => rfl)
  rw [h, ← fi_ge]
  unfold fi
  cases s.findIdx? (fun z => v == z) <;> rfl
/-! loops over a list, prefix by prefix -/
theorem pre_loop {α τ β : Type} (R : List α) (T : List α → τ) (J : List α → Prop) {f : τ → Option (Lp τ β)} (o : β)
    (h1 : ∀ xs v ys, R = xs ++ v :: ys → J xs → (f (T xs) = some (.next (T (xs ++ [v]))) ∧ J (xs ++ [v])) ∨ f (T xs) = some (.out o))
    (h2 : J R → f (T R) = some (.out o)) (h0 : J []) : loopO f (T []) = some o := by
  have key : ∀ ys xs, R = xs ++ ys → J xs → loopO f (T xs) = some o := by
    intro ys
    induction ys with
    | nil =>
      intro xs h hJ
      rw [List.append_nil] at h; subst h
      rw [loopO_eq, h2 hJ]; rfl
    | cons v ys ih =>
      intro xs h hJ
      rcases h1 xs v ys h hJ with ⟨h3, h4⟩ | h3
      · rw [loopO_eq, h3]
        exact ih (xs ++ [v]) (by rw [h, List.append_assoc]; rfl) h4
      · rw [loopO_eq, h3]; rfl
  exact key R [] rfl h0
theorem idx_mid {α : Type} {R xs ys : List α} {v : α} (h : R = xs ++ v :: ys) : idx R (xs.length : Int) = some v := by
  subst h
  rw [idx_nat (by simp)]
  simp
theorem idx_mid_map {α β : Type} {R xs ys : List α} {v : α} (g : α → β) (h : R = xs ++ v :: ys) : idx (R.map g) (xs.length : Int) = some (g v) := by
  subst h
  rw [idx_nat (by simp)]
  simp
theorem len_lt {α : Type} {R xs ys : List α} {v : α} (h : R = xs ++ v :: ys) : xs.length < R.length := by subst h; simp
theorem len_snoc {α : Type} (xs : List α) (v : α) (h : (xs.length : Int) ≤ 1000) : IntKind.wrap .i64 ((xs.length : Int) + 1) = ((xs ++ [v]).length : Int) := by
  rw [wrap64 (by omega) (by omega)]; simp
/-! arrays of eight -/
def rd {α : Type} (x : A8 α) (k : Int) : α := if k = 0 then x.a0 else if k = 1 then x.a1 else if k = 2 then x.a2 else if k = 3 then x.a3 else if k = 4 then x.a4 else if k = 5 then x.a5 else if k = 6 then x.a6 else x.a7
theorem k8 {k : Int} (h : 0 ≤ k ∧ k < 8) : k = 0 ∨ k = 1 ∨ k = 2 ∨ k = 3 ∨ k = 4 ∨ k = 5 ∨ k = 6 ∨ k = 7 := by omega
theorem idx_rd {α : Type} (x : A8 α) {k : Int} (h : 0 ≤ k ∧ k < 8) : idx x.l k = some (rd x k) := by
  rcases k8 h with rfl | rfl | rfl | rfl | rfl | rfl | rfl | rfl <;> rfl
theorem rd_set {α : Type} (x : A8 α) (y : α) {k j : Int} (h : 0 ≤ k ∧ k < 8) (hj : 0 ≤ j ∧ j < 8) : rd (A8.set x k y) j = if j = k then y else rd x j := by
  rcases k8 h with rfl | rfl | rfl | rfl | rfl | rfl | rfl | rfl <;> rcases k8 hj with rfl | rfl | rfl | rfl | rfl | rfl | rfl | rfl <;> rfl
theorem a8_ext {α : Type} {x y : A8 α} (h : ∀ k : Int, 0 ≤ k ∧ k < 8 → rd x k = rd y k) : x = y := by
  have e0 := h 0 (by omega); have e1 := h 1 (by omega); have e2 := h 2 (by omega); have e3 := h 3 (by omega); have e4 := h 4 (by omega); have e5 := h 5 (by omega); have e6 := h 6 (by omega); have e7 := h 7 (by omega)
  cases x; cases y
  simp only [rd] at e0 e1 e2 e3 e4 e5 e6 e7
  simp at e0 e1 e2 e3 e4 e5 e6 e7
  subst e0 e1 e2 e3 e4 e5 e6 e7; rfl
/-! keys -/
theorem and_mask' {x : Int} {m : Int} (j : Nat) (hj : j ≤ 62) (hm : m = ((2 ^ j - 1 : Nat) : Int)) : bitsOp .and .i64 x m = x % (2 ^ j : Nat) := by
  subst hm; exact and_mask x j hj
def ky (n : Int) : Int := n % 8
theorem ky_and (n : Int) : bitsOp .and .i64 n 7 = ky n := and_mask' 3 (by omega) rfl
theorem ky_in (n : Int) : 0 ≤ ky n ∧ ky n < 8 := by unfold ky; omega
theorem ky_ky (n : Int) : ky (ky n) = ky n := by unfold ky; omega
theorem ky_id {k : Int} (h : 0 ≤ k ∧ k < 8) : ky k = k := by unfold ky; omega
theorem nm_ky (n : Int) : nm n = [UInt8.ofNat (65 + ky n).toNat] := by
  unfold nm
  rw [ky_and]
  have h := ky_in n
  rcases k8 h with e | e | e | e | e | e | e | e <;> rw [e] <;> rfl
theorem nm_eq (a b : Int) : (nm a == nm b) = decide (ky a = ky b) := by
  rw [nm_ky, nm_ky]
  have h := ky_in a; have h' := ky_in b
  rcases k8 h with e | e | e | e | e | e | e | e <;> rcases k8 h' with f | f | f | f | f | f | f | f <;> rw [e, f] <;> rfl
theorem nm_of_ky (a : Int) : nm (ky a) = nm a := by rw [nm_ky, nm_ky, ky_ky]
/-! who gives a name -/

noncomputable def P_ (k : Int) (v : A4 Int) : Bool := has8 v.a1 && decide (ky v.a1 = k)
theorem fi_snoc {α : Type} (p : α → Bool) (l : List α) (v : α) : fi p (l ++ [v]) = if fi p l ≥ 0 then fi p l else if p v then (l.length : Int) else -1 := by
  unfold fi
  rw [List.findIdx?_append]
  cases h : l.findIdx? p with
  | some k =>
    have : ((k : Nat) : Int) ≥ 0 := by omega
    simp only [Option.some_or, if_pos this]
  | none =>
    rw [List.findIdx?_cons]
    cases hp : p v <;> simp
theorem fi_map {α β : Type} (g : β → α) (p : α → Bool) (l : List β) : fi p (l.map g) = fi (fun x => p (g x)) l := by
  unfold fi
  rw [List.findIdx?_map]; rfl
theorem fi_nil {α : Type} (p : α → Bool) : fi p [] = -1 := rfl
theorem fi_congr {α : Type} {p q : α → Bool} (h : ∀ x, p x = q x) (l : List α) : fi p l = fi q l := by
  rw [show p = q from funext h]
theorem fi_lo {α : Type} (p : α → Bool) (l : List α) : -1 ≤ fi p l := by
  unfold fi; split <;> omega
theorem fi_get {α : Type} {p : α → Bool} {l : List α} (h : fi p l ≥ 0) : ∃ x, idx l (fi p l) = some x ∧ p x = true := by
  unfold fi at h ⊢
  cases hf : l.findIdx? p with
  | none => rw [hf] at h; simp at h
  | some k =>
    obtain ⟨hlt, hp, _⟩ := List.findIdx?_eq_some_iff_getElem.1 hf
    exact ⟨_, idx_nat hlt, hp⟩
theorem fi_any {α : Type} {p : α → Bool} {l : List α} : fi p l ≥ 0 ↔ l.any p = true := by
  rw [← fi_ge]; simp
theorem row_pubs (v : A4 Int) (b : Int) : ((rowM v).Pubs.any fun z => z.Name == nm b) = P_ (ky b) v := by
  unfold rowM P_
  cases h : has8 v.a1 with
  | true => simp only [if_true, List.any_cons, List.any_nil, Bool.or_false, Bool.true_and]; exact nm_eq _ _
  | false => simp
theorem row_pubs_len (v : A4 Int) : (rowM v).Pubs.length ≤ 1 := by
  unfold rowM
  cases has8 v.a1 <;> simp
theorem row_exts_len (v : A4 Int) : (rowM v).Exts.length ≤ 2 := by
  unfold rowM
  cases has8 v.a2 <;> simp
theorem given_rows (R : List (A4 Int)) (hR : R.length ≤ 1000) (b : Int) : pool_given (R.map rowM) (nm b) = some (fi (P_ (ky b)) R) := by
  rw [given_eq _ _ (by simpa using hR) (by
    intro m hm
    obtain ⟨v, _, rfl⟩ := List.mem_map.1 hm
    have := row_pubs_len v; omega), fi_map, fi_congr fun x => row_pubs x b]
/-- the array of who gives -/
noncomputable def GV (R : List (A4 Int)) : A8 Int := ⟨fi (P_ 0) R, fi (P_ 1) R, fi (P_ 2) R, fi (P_ 3) R, fi (P_ 4) R, fi (P_ 5) R, fi (P_ 6) R, fi (P_ 7) R⟩
theorem rd_GV (R : List (A4 Int)) {k : Int} (h : 0 ≤ k ∧ k < 8) : rd (GV R) k = fi (P_ k) R := by
  rcases k8 h with rfl | rfl | rfl | rfl | rfl | rfl | rfl | rfl <;> rfl
theorem GV_snoc (xs : List (A4 Int)) (v : A4 Int) : GV (xs ++ [v]) = if has8 v.a1 = true ∧ fi (P_ (ky v.a1)) xs < 0 then A8.set (GV xs) (ky v.a1) (xs.length : Int) else GV xs := by
  apply a8_ext
  intro k hk
  rw [rd_GV _ hk, fi_snoc]
  have lo := fi_lo (P_ k) xs
  by_cases c : has8 v.a1 = true ∧ fi (P_ (ky v.a1)) xs < 0
  · rw [if_pos c, rd_set _ _ (ky_in _) hk, rd_GV _ hk]
    by_cases e : k = ky v.a1
    · subst e
      rw [if_pos rfl, if_neg (by omega), if_pos (by simp [P_, c.1])]
    · rw [if_neg e]
      have : P_ k v = false := by unfold P_; rw [decide_eq_false (fun h => e h.symm)]; simp
      rw [this]
      split
      · rfl
      · simp; omega
  · rw [if_neg c, rd_GV _ hk]
    split
    · rfl
    · rename_i h0
      have : P_ k v = false := by
        unfold P_
        cases h8 : has8 v.a1 with
        | false => rfl
        | true =>
          rw [Bool.true_and, decide_eq_false]
          intro e; subst e
          exact c ⟨h8, by omega⟩
      rw [this]; simp; omega
/-- a name is given twice -/
noncomputable def TW : List (A4 Int) → List (A4 Int) → Bool
  | _, [] => false
  | xs, v :: ys => (has8 v.a1 && decide (fi (P_ (ky v.a1)) xs ≥ 0)) || TW (xs ++ [v]) ys
noncomputable def tw1 (xs : List (A4 Int)) (v : A4 Int) : Bool := has8 v.a1 && decide (fi (P_ (ky v.a1)) xs ≥ 0)
theorem TW_app (ys : List (A4 Int)) : ∀ (zs xs : List (A4 Int)), TW zs (xs ++ ys) = (TW zs xs || TW (zs ++ xs) ys) := by
  intro zs xs
  induction xs generalizing zs with
  | nil => simp [TW]
  | cons v xs ih => simp only [List.cons_append, TW, ih, Bool.or_assoc, List.append_assoc, List.singleton_append, List.nil_append]
noncomputable def tw (xs : List (A4 Int)) : Bool := TW [] xs
theorem tw_snoc (xs : List (A4 Int)) (v : A4 Int) : tw (xs ++ [v]) = (tw xs || tw1 xs v) := by
  unfold tw; rw [TW_app]; simp [TW, tw1]
theorem tw_mono (xs ys : List (A4 Int)) (h : tw xs = true) : tw (xs ++ ys) = true := by
  unfold tw at *; rw [TW_app, h]; rfl
abbrev M8 : A8 Int := { a0 := (-1), a1 := (-1), a2 := (-1), a3 := (-1), a4 := (-1), a5 := (-1), a6 := (-1), a7 := (-1) }
theorem rd_M8 {k : Int} (h : 0 ≤ k ∧ k < 8) : rd M8 k = -1 := by
  rcases k8 h with rfl | rfl | rfl | rfl | rfl | rfl | rfl | rfl <;> rfl
theorem GV_nil : GV [] = M8 := rfl
section
variable (l : List (A4 Int)) (n : Int) (R : List (A4 Int)) (hp : ∃ r, l = R ++ r) (hR : R.length ≤ 5)
include hp in
theorem idx_pre {xs ys : List (A4 Int)} {v : A4 Int} (h : R = xs ++ v :: ys) : idx l (xs.length : Int) = some v := by
  obtain ⟨r, rfl⟩ := hp
  exact idx_mid (ys := ys ++ r) (by rw [h]; simp)
include hp hR in
theorem l10_eq : loopO (fun x : ((A8 Int) × Bool × Int) => hansomlaw39_PoolNames_l10 x.1 M8 l n (R.map rowM) x.2.1 x.2.2) (M8, false, 0) = some (GV R, tw R) := by
  refine pre_loop R (fun xs => (GV xs, tw xs, (xs.length : Int))) (fun _ => True) (GV R, tw R) (fun xs v ys h _ => .inl ⟨?_, trivial⟩) (fun _ => ?_) trivial
  · have hl := len_lt h
    have hz := idx_pre l R hp h
    show hansomlaw39_PoolNames_l10 (GV xs) M8 l n (R.map rowM) (tw xs) (xs.length : Int) = _
    unfold hansomlaw39_PoolNames_l10
    rw [if_pos (by rw [List.length_map]; simpa using hl), hz, Option.bind_some, Option.bind_some, len_snoc xs v (by omega), GV_snoc, tw_snoc]
    unfold tw1
    by_cases c : decide ((bitsOp .and .i64 v.a1 8) > 0) = true
    · have h8 : has8 v.a1 = true := c
      rw [if_pos c, ky_and, idx_rd _ (ky_in _), Option.bind_some, rd_GV _ (ky_in _), h8]
      simp only [Option.bind_some, Bool.true_and]
      by_cases d : fi (P_ (ky v.a1)) xs < 0
      · have d' : decide (fi (P_ (ky v.a1)) xs < 0) = true := by simpa using d
        have d2 : decide (fi (P_ (ky v.a1)) xs ≥ 0) = false := by simp; omega
        cases tw xs <;> simp [d', d, d2]
      · have d2 : decide (fi (P_ (ky v.a1)) xs ≥ 0) = true := by simp; omega
        cases tw xs <;> simp [d, d2]
    · have h8 : has8 v.a1 = false := by simpa [has8] using c
      rw [if_neg c, h8]
      simp
  · show hansomlaw39_PoolNames_l10 (GV R) M8 l n (R.map rowM) (tw R) (R.length : Int) = _
    unfold hansomlaw39_PoolNames_l10
    rw [if_neg (by simp)]
/-- is it given? -/
noncomputable def gB (k : Int) : Bool := decide (fi (P_ k) R ≥ 0)
/-- what is made: in which order, and how long -/
noncomputable def stepOM (s : List Int × A8 Int) (v : A4 Int) : List Int × A8 Int :=
  if has8 v.a2 && !gB R (ky v.a2) then (if rd s.2 (ky v.a2) < 0 then s.1 ++ [ky v.a2] else s.1, A8.set s.2 (ky v.a2) (mxI (rd s.2 (ky v.a2)) (bitsOp .and .i64 v.a3 63))) else s
noncomputable def OM (xs : List (A4 Int)) : List Int × A8 Int := xs.foldl (stepOM R) ([], M8)
theorem OM_snoc (xs : List (A4 Int)) (v : A4 Int) : OM R (xs ++ [v]) = stepOM R (OM R xs) v := by
  unfold OM; rw [List.foldl_append]; rfl
structure OMok (s : List Int × A8 Int) : Prop where
  nd : s.1.Nodup
  mem : ∀ k ∈ s.1, (0 ≤ k ∧ k < 8) ∧ rd s.2 k ≥ 0 ∧ gB R k = false
  all : ∀ k, 0 ≤ k ∧ k < 8 → rd s.2 k ≥ 0 → k ∈ s.1
  rng : ∀ k, 0 ≤ k ∧ k < 8 → -1 ≤ rd s.2 k ∧ rd s.2 k ≤ 63
theorem ln_in (n : Int) : 0 ≤ bitsOp .and .i64 n 63 ∧ bitsOp .and .i64 n 63 ≤ 63 := by
  rw [show bitsOp .and .i64 n 63 = n % 64 from and_mask' 6 (by omega) rfl]; omega
theorem step_ok (s : List Int × A8 Int) (v : A4 Int) (h : OMok R s) : OMok R (stepOM R s v) := by
  unfold stepOM
  by_cases c : (has8 v.a2 && !gB R (ky v.a2)) = true
  · rw [if_pos c]
    simp only [Bool.and_eq_true, Bool.not_eq_true'] at c
    have hk := ky_in v.a2
    generalize ky v.a2 = k at c hk
    have hn := ln_in v.a3
    generalize bitsOp .and .i64 v.a3 63 = n at hn
    have hr := h.rng k hk
    have hmx : 0 ≤ mxI (rd s.2 k) n ∧ mxI (rd s.2 k) n ≤ 63 := by unfold mxI; split <;> omega
    refine ⟨?_, ?_, ?_, ?_⟩
    · simp only
      split
      · rename_i d
        rw [List.nodup_append]
        refine ⟨h.nd, by simp, ?_⟩
        intro a ha b hb e
        simp only [List.mem_singleton] at hb
        subst e; subst hb
        have := (h.mem _ ha).2.1
        omega
      · exact h.nd
    · intro j hj
      simp only at hj ⊢
      by_cases e : j = k
      · subst e
        rw [rd_set _ _ hk hk, if_pos rfl]
        exact ⟨hk, hmx.1, c.2⟩
      · have hm : j ∈ s.1 := by
          split at hj
          · rcases List.mem_append.1 hj with h1 | h1
            · exact h1
            · simp only [List.mem_singleton] at h1; exact absurd h1 e
          · exact hj
        obtain ⟨a, b, d⟩ := h.mem j hm
        rw [rd_set _ _ hk a, if_neg e]
        exact ⟨a, b, d⟩
    · intro j hj h0
      simp only at h0 ⊢
      by_cases e : j = k
      · subst e
        split
        · simp
        · rename_i d
          exact h.all _ hk (by omega)
      · rw [rd_set _ _ hk hj, if_neg e] at h0
        have := h.all j hj h0
        split
        · exact List.mem_append_left _ this
        · exact this
    · intro j hj
      simp only
      rw [rd_set _ _ hk hj]
      split
      · omega
      · exact h.rng j hj
  · rw [if_neg c]; exact h
theorem snoc_ind {α : Type} {p : List α → Prop} (h0 : p []) (h1 : ∀ xs v, p xs → p (xs ++ [v])) (l : List α) : p l := by
  have : ∀ l : List α, p l.reverse := by
    intro l
    induction l with
    | nil => exact h0
    | cons a l ih => rw [List.reverse_cons]; exact h1 _ _ ih
  have h := this l.reverse
  rwa [List.reverse_reverse] at h
theorem OM_ok (xs : List (A4 Int)) : OMok R (OM R xs) := by
  refine snoc_ind (p := fun xs => OMok R (OM R xs)) ?_ ?_ xs
  · refine ⟨by simp [OM], by simp [OM], ?_, ?_⟩
    · intro k hk h
      rw [show (OM R []).2 = M8 from rfl, rd_M8 hk] at h; omega
    · intro k hk
      rw [show (OM R []).2 = M8 from rfl, rd_M8 hk]; omega
  · intro xs v h
    rw [OM_snoc]; exact step_ok R _ _ h
theorem OM_len (xs : List (A4 Int)) : (OM R xs).1.length ≤ xs.length := by
  refine snoc_ind (p := fun xs => (OM R xs).1.length ≤ xs.length) ?_ ?_ xs
  · simp [OM]
  · intro xs v h
    rw [OM_snoc]
    unfold stepOM
    split
    · simp only
      split
      · simp only [List.length_append, List.length_cons, List.length_nil]; omega
      · simp only [List.length_append, List.length_cons, List.length_nil]; omega
    · simp only [List.length_append, List.length_cons, List.length_nil]; omega
include hp hR in
theorem l39_eq (t : Bool) : loopO (fun x : ((A8 Int) × (List Int) × Int) => hansomlaw39_PoolNames_l39 (GV R) x.1 x.2.1 l n (R.map rowM) t x.2.2) (M8, ([] : List Int), 0) = some ((OM R R).2, (OM R R).1) := by
  refine pre_loop R (fun xs => ((OM R xs).2, (OM R xs).1, (xs.length : Int))) (fun _ => True) ((OM R R).2, (OM R R).1) (fun xs v ys h _ => .inl ⟨?_, trivial⟩) (fun _ => ?_) trivial
  · have hl := len_lt h
    have hz := idx_pre l R hp h
    have hol := OM_len R xs
    show hansomlaw39_PoolNames_l39 (GV R) (OM R xs).2 (OM R xs).1 l n (R.map rowM) t (xs.length : Int) = _
    unfold hansomlaw39_PoolNames_l39
    rw [if_pos (by rw [List.length_map]; simpa using hl), hz, Option.bind_some, Option.bind_some, ky_and, OM_snoc]
    unfold stepOM
    by_cases c : decide ((bitsOp .and .i64 v.a2 8) > 0) = true
    · have h8 : has8 v.a2 = true := c
      have hlo := fi_lo (P_ (ky v.a2)) R
      rw [if_pos c, idx_rd _ (ky_in _), Option.bind_some, rd_GV _ (ky_in _), h8, Bool.true_and]
      unfold hansomlaw39_PoolNames_j52 gB
      by_cases d : fi (P_ (ky v.a2)) R < 0
      · have d2 : decide (fi (P_ (ky v.a2)) R ≥ 0) = false := by simp; omega
        rw [if_pos (by simpa using d), d2, if_pos (by rfl), idx_rd _ (ky_in _), hz]
        simp only [Option.bind_some]
        rw [len_snoc xs v (by omega)]
        by_cases e : rd (OM R xs).2 (ky v.a2) < 0
        · rw [if_pos (by simpa using e), if_pos e, grow_eq (by simp only [List.length_cons, List.length_nil]; omega) (by simp only [List.length_cons, List.length_nil]; omega)]
          rfl
        · rw [if_neg (by simpa using e), if_neg e]
      · have d2 : decide (fi (P_ (ky v.a2)) R ≥ 0) = true := by simp; omega
        rw [if_neg (by simpa using d), d2, if_neg (by simp), len_snoc xs v (by omega)]
    · have h8 : has8 v.a2 = false := by simpa [has8] using c
      rw [if_neg c, h8]
      unfold hansomlaw39_PoolNames_j52
      rw [if_neg (by simp), Bool.false_and, if_neg (by simp), len_snoc xs v (by omega)]
  · show hansomlaw39_PoolNames_l39 (GV R) (OM R R).2 (OM R R).1 l n (R.map rowM) t (R.length : Int) = _
    unfold hansomlaw39_PoolNames_l39
    rw [if_neg (by simp)]
end
section
variable (l : List (A4 Int)) (n : Int) (R : List (A4 Int)) (hp : ∃ r, l = R ++ r) (hR : R.length ≤ 5)
/-- what Made has told behind some rows -/
noncomputable def mkX (a : A8 Int) (k : Int) : Ext := { Name := nm k, Com := 98, Len := IntKind.wrap .u32 (rd a k) }
noncomputable def MD (xs : List (A4 Int)) : List Ext := (OM R xs).1.map (mkX (OM R xs).2)
theorem wrapu32 {n : Int} (h0 : 0 ≤ n) (h1 : n ≤ 63) : IntKind.wrap .u32 n = n := by rw [IntKind.wrap_u32]; omega
include hR in
theorem inner_given {v : A4 Int} (b : Int) : pool_given (R.map rowM) (nm b) = some (fi (P_ (ky b)) R) := given_rows R (by omega) b
theorem cx_eq (v : A4 Int) : cx v = ({ Name := nm v.a2, Com := 98, Len := IntKind.wrap .u32 (bitsOp .and .i64 v.a3 63) } : Ext) := rfl
theorem fi_MD {s : List Int × A8 Int} (h : OMok R s) (b : Int) : fi (fun y => y.Name == nm b) (s.1.map (mkX s.2)) = fi (fun k => decide (k = ky b)) s.1 := by
  rw [fi_map]
  have : ∀ l : List Int, (∀ k ∈ l, 0 ≤ k ∧ k < 8) → fi (fun x => (mkX s.2 x).Name == nm b) l = fi (fun k => decide (k = ky b)) l := by
    intro l
    refine snoc_ind (p := fun l => (∀ k ∈ l, 0 ≤ k ∧ k < 8) → fi (fun x => (mkX s.2 x).Name == nm b) l = fi (fun k => decide (k = ky b)) l) ?_ ?_ l
    · intro _; rfl
    · intro xs v ih hm
      rw [fi_snoc, fi_snoc, ih (fun k hk => hm k (List.mem_append_left _ hk))]
      have hv := hm v (by simp)
      have : ((mkX s.2 v).Name == nm b) = decide (v = ky b) := by
        show (nm v == nm b) = _
        rw [nm_eq, ky_id hv]
      rw [this]
  exact this _ fun k hk => (h.mem k hk).1
theorem made_step {s : List Int × A8 Int} (h : OMok R s) (v : A4 Int) (hc : (has8 v.a2 && !gB R (ky v.a2)) = true) (hneg : fi (fun k => decide (k = ky v.a2)) s.1 < 0) :
    (stepOM R s v).1.map (mkX (stepOM R s v).2) = s.1.map (mkX s.2) ++ [cx v] := by
  have hk := ky_in v.a2
  have hnot : ¬ rd s.2 (ky v.a2) ≥ 0 := by
    intro h0
    have hm := h.all _ hk h0
    have : fi (fun k => decide (k = ky v.a2)) s.1 ≥ 0 := fi_any.2 (List.any_eq_true.2 ⟨_, hm, by simp⟩)
    omega
  have hn := ln_in v.a3
  unfold stepOM
  rw [if_pos hc]
  simp only
  rw [if_pos (by omega), List.map_append]
  congr 1
  · apply List.map_congr_left
    intro j hj
    obtain ⟨a, b, _⟩ := h.mem j hj
    unfold mkX
    rw [rd_set _ _ hk a, if_neg (by intro e; subst e; exact hnot b)]
  · simp only [List.map_cons, List.map_nil, mkX, cx_eq]
    rw [rd_set _ _ hk hk, if_pos rfl, nm_of_ky]
    have : mxI (rd s.2 (ky v.a2)) (bitsOp .and .i64 v.a3 63) = bitsOp .and .i64 v.a3 63 := by rw [mxI_eq]; omega
    rw [this]
theorem made_step2 {s : List Int × A8 Int} (h : OMok R s) (v : A4 Int) (hc : (has8 v.a2 && !gB R (ky v.a2)) = true) (hpos : ¬ fi (fun k => decide (k = ky v.a2)) s.1 < 0) :
    ∃ z, idx (s.1.map (mkX s.2)) (fi (fun k => decide (k = ky v.a2)) s.1) = some z ∧
      (stepOM R s v).1.map (mkX (stepOM R s v).2) = List.set (s.1.map (mkX s.2)) (fi (fun k => decide (k = ky v.a2)) s.1).toNat ({ Name := z.Name, Com := z.Com, Len := mxI z.Len (cx v).Len } : Ext) := by
  have hk := ky_in v.a2
  obtain ⟨k, h1, h2⟩ := fi_get (p := fun k => decide (k = ky v.a2)) (l := s.1) (by omega)
  simp only [decide_eq_true_eq] at h2
  subst h2
  have hj := idx_some h1
  generalize fi (fun j => decide (j = ky v.a2)) s.1 = j at *
  have hm : ky v.a2 ∈ s.1 := List.mem_of_getElem? hj.2
  obtain ⟨a, b, _⟩ := h.mem _ hm
  have hr := h.rng _ hk
  have hn := ln_in v.a3
  refine ⟨mkX s.2 (ky v.a2), ?_, ?_⟩
  · unfold idx
    rw [if_pos hj.1, List.getElem?_map, hj.2]; rfl
  · unfold stepOM
    rw [if_pos hc]
    simp only
    rw [if_neg (by omega)]
    have e2 : ({ Name := (mkX s.2 (ky v.a2)).Name, Com := (mkX s.2 (ky v.a2)).Com, Len := mxI (mkX s.2 (ky v.a2)).Len (cx v).Len } : Ext) = mkX (A8.set s.2 (ky v.a2) (mxI (rd s.2 (ky v.a2)) (bitsOp .and .i64 v.a3 63))) (ky v.a2) := by
      unfold mkX
      rw [rd_set _ _ hk hk, if_pos rfl, cx_eq]
      simp only
      rw [wrapu32 (n := rd s.2 (ky v.a2)) b (by omega), wrapu32 (n := bitsOp .and .i64 v.a3 63) hn.1 hn.2, wrapu32 (n := mxI _ _) (by rw [mxI_eq]; omega) (by rw [mxI_eq]; omega)]
    rw [e2]
    apply List.ext_getElem?
    intro i
    rw [List.getElem?_set, List.getElem?_map, List.getElem?_map]
    by_cases e : j.toNat = i
    · subst e
      have hlt : j.toNat < s.1.length := by
        rcases Nat.lt_or_ge j.toNat s.1.length with h3 | h3
        · exact h3
        · have := hj.2; rw [List.getElem?_eq_none h3] at this; cases this
      rw [if_pos rfl, hj.2]
      simp [hlt]
    · rw [if_neg e]
      cases hi : s.1[i]? with
      | none => rfl
      | some q =>
        have hq : q ≠ ky v.a2 := by
          intro e2
          subst e2
          obtain ⟨hi1, hi2⟩ := List.getElem?_eq_some_iff.1 hi
          obtain ⟨hj1, hj2⟩ := List.getElem?_eq_some_iff.1 hj.2
          have hp := List.pairwise_iff_getElem.1 h.nd
          rcases Nat.lt_or_ge i j.toNat with h3 | h3
          · exact hp i j.toNat hi1 hj1 h3 (by rw [hi2, hj2])
          · exact hp j.toNat i hj1 hi1 (by omega) (by rw [hi2, hj2])
        simp only [Option.map_some, Option.some.injEq]
        unfold mkX
        have hqm : q ∈ s.1 := List.mem_of_getElem? hi
        rw [rd_set _ _ hk (h.mem q hqm).1, if_neg hq]
include hR in
theorem made_in {xs ys : List (A4 Int)} {v : A4 Int} (h : R = xs ++ v :: ys) (i t10 : Int) (t9 : List Module) :
    loopO (fun x : ((List Ext) × Int) => pool_Made_l22 x.1 (R.map rowM) t9 t10 i (rowM v).Exts ((rowM v).Exts.length : Int) x.2) (MD R xs, 0) = some (MD R (xs ++ [v])) := by
  have hl := len_lt h
  have hol := OM_len R xs
  have s0 : ∀ es : List Ext, pool_Made_l22 (MD R xs) (R.map rowM) t9 t10 i (tk (nm v.a0) :: es) ((tk (nm v.a0) :: es).length : Int) 0 = some (.next (MD R xs, 1)) := by
    intro es
    unfold pool_Made_l22
    rw [if_pos (by simp only [List.length_cons, decide_eq_true_eq]; omega), show idx (tk (nm v.a0) :: es) 0 = some (tk (nm v.a0)) from rfl, Option.bind_some, if_pos (by rfl)]
    rfl
  cases h8 : has8 v.a2 with
  | false =>
    have he : (rowM v).Exts = [tk (nm v.a0)] := by unfold rowM; rw [h8]; rfl
    rw [he, loopO_eq, s0]
    simp only [Option.bind_some]
    rw [loopO_eq]
    unfold pool_Made_l22
    rw [if_neg (by simp), Option.bind_some]
    have : OM R (xs ++ [v]) = OM R xs := by rw [OM_snoc]; unfold stepOM; rw [h8, Bool.false_and, if_neg (by simp)]
    unfold MD
    rw [this]
  | true =>
    have he : (rowM v).Exts = [tk (nm v.a0), cx v] := by unfold rowM; rw [h8]; rfl
    rw [he, loopO_eq, s0]
    simp only [Option.bind_some]
    have s1 : pool_Made_l22 (MD R xs) (R.map rowM) t9 t10 i [tk (nm v.a0), cx v] (([tk (nm v.a0), cx v] : List Ext).length : Int) 1 = some (.next (MD R (xs ++ [v]), 2)) := by
      unfold pool_Made_l22
      rw [if_pos (by simp), show idx [tk (nm v.a0), cx v] 1 = some (cx v) from rfl, Option.bind_some, if_neg (by rw [cx_eq]; simp), show (cx v).Name = nm v.a2 from rfl, given_rows R (by omega), Option.bind_some]
      have e2 : IntKind.wrap .i64 ((1 : Int) + 1) = 2 := rfl
      by_cases d : fi (P_ (ky v.a2)) R ≥ 0
      · have hg : gB R (ky v.a2) = true := by unfold gB; simpa using d
        rw [if_pos (by simpa using d), e2]
        have : OM R (xs ++ [v]) = OM R xs := by rw [OM_snoc]; unfold stepOM; rw [hg, h8, if_neg (by simp)]
        unfold MD; rw [this]
      · have hg : gB R (ky v.a2) = false := by unfold gB; simp; omega
        have hc : (has8 v.a2 && !gB R (ky v.a2)) = true := by rw [hg, h8]; rfl
        rw [if_neg (by simpa using d), fi_made _ _ (by unfold MD; rw [List.length_map]; omega), Option.bind_some]
        simp only
        have hf : fi (fun y => y.Name == (cx v).Name) (MD R xs) = fi (fun k => decide (k = ky v.a2)) (OM R xs).1 := fi_MD R (OM_ok R xs) v.a2
        rw [hf]
        by_cases e : fi (fun k => decide (k = ky v.a2)) (OM R xs).1 < 0
        · rw [if_pos (by simpa using e), grow_eq (by unfold MD; simp only [List.length_map, List.length_cons, List.length_nil]; omega) (by unfold MD; simp only [List.length_map, List.length_cons, List.length_nil]; omega), Option.bind_some, e2]
          have := made_step R (OM_ok R xs) v hc e
          unfold MD
          rw [OM_snoc, this]
        · rw [if_neg (by simpa using e)]
          obtain ⟨z, hz, hm⟩ := made_step2 R (OM_ok R xs) v hc e
          rw [show idx (MD R xs) (fi (fun k => decide (k = ky v.a2)) (OM R xs).1) = some z from hz]
          simp only [Option.bind_some, e2]
          unfold MD
          rw [OM_snoc, hm]
    rw [loopO_eq, s1]
    simp only [Option.bind_some]
    rw [loopO_eq]
    unfold pool_Made_l22
    rw [if_neg (by simp)]; rfl
include hR in
theorem made_eq : pool_Made (R.map rowM) = some (MD R R) := by
  unfold pool_Made
  have key : loopO (fun x : ((List Ext) × Int) => pool_Made_l8 x.1 (R.map rowM) (R.map rowM) ((R.map rowM).length : Int) x.2) (([] : List Ext), 0) = some (MD R R) := by
   refine pre_loop R (fun xs => (MD R xs, (xs.length : Int))) (fun _ => True) (MD R R) (fun xs v ys h _ => .inl ⟨?_, trivial⟩) (fun _ => ?_) trivial
   · have hl := len_lt h
     show pool_Made_l8 (MD R xs) (R.map rowM) (R.map rowM) ((R.map rowM).length : Int) (xs.length : Int) = _
     unfold pool_Made_l8
     rw [if_pos (by rw [List.length_map]; simpa using hl), idx_mid_map rowM h, Option.bind_some, made_in R hR h, Option.bind_some, len_snoc xs v (by omega)]
   · show pool_Made_l8 (MD R R) (R.map rowM) (R.map rowM) ((R.map rowM).length : Int) (R.length : Int) = _
     unfold pool_Made_l8
     rw [if_neg (by simp)]
  rw [key]; rfl
end
section
variable (l : List (A4 Int)) (n : Int) (R : List (A4 Int)) (hp : ∃ r, l = R ++ r) (hR : R.length ≤ 5)
/-! names that are given twice -/
noncomputable def SN (xs : List (A4 Int)) : List (List UInt8) := (xs.filter fun v => has8 v.a1).map fun v => nm v.a1
theorem SN_snoc (xs : List (A4 Int)) (v : A4 Int) : SN (xs ++ [v]) = if has8 v.a1 then SN xs ++ [nm v.a1] else SN xs := by
  unfold SN
  rw [List.filter_append, List.map_append]
  cases h : has8 v.a1 with
  | true => simp [h]
  | false => simp [h]
theorem SN_len (xs : List (A4 Int)) : (SN xs).length ≤ xs.length := by
  unfold SN; rw [List.length_map]; exact List.length_filter_le _ _
theorem SN_any (xs : List (A4 Int)) (b : Int) : (SN xs).any (fun z => nm b == z) = decide (fi (P_ (ky b)) xs ≥ 0) := by
  rw [fi_ge]
  unfold SN
  rw [List.any_map, List.any_filter]
  congr 1
  funext v
  simp only [Function.comp, P_]
  rw [nm_eq]
  congr 1
  rw [decide_eq_decide]; exact eq_comm
include hR in
theorem twice_in {xs ys : List (A4 Int)} {v : A4 Int} (h : R = xs ++ v :: ys) (i t9 : Int) (t8 : List Module) :
    loopO (fun x : ((List (List UInt8)) × Int) => pool_Twice_l22 x.1 t8 t9 i (rowM v).Pubs ((rowM v).Pubs.length : Int) x.2) (SN xs, 0) = some (if tw1 xs v then .inl true else .inr (SN (xs ++ [v]))) := by
  have hl := len_lt h
  have hsl := SN_len xs
  rw [SN_snoc]
  unfold tw1
  cases h8 : has8 v.a1 with
  | false =>
    have he : (rowM v).Pubs = [] := by unfold rowM; rw [h8]; rfl
    rw [he, loopO_eq]
    unfold pool_Twice_l22
    rw [if_neg (by simp)]; simp
  | true =>
    have he : (rowM v).Pubs = [gv (nm v.a1)] := by unfold rowM; rw [h8]; rfl
    have s0 : pool_Twice_l22 (SN xs) t8 t9 i [gv (nm v.a1)] (([gv (nm v.a1)] : List Pub).length : Int) 0 = some (if decide (fi (P_ (ky v.a1)) xs ≥ 0) then .out (.inl true) else .next (SN xs ++ [nm v.a1], 1)) := by
      unfold pool_Twice_l22
      rw [if_pos (by simp), show idx [gv (nm v.a1)] 0 = some (gv (nm v.a1)) from rfl, Option.bind_some, any_str _ _ (by omega), Option.bind_some, SN_any]
      cases decide (fi (P_ (ky v.a1)) xs ≥ 0) with
      | true => rfl
      | false =>
        rw [if_neg (by simp), grow_eq (by simp only [List.length_cons, List.length_nil]; omega) (by simp only [List.length_cons, List.length_nil]; omega)]; rfl
    rw [he, loopO_eq, s0]
    cases decide (fi (P_ (ky v.a1)) xs ≥ 0) with
    | true => rfl
    | false =>
      simp only [Option.bind_some, Bool.false_eq_true, if_false]
      rw [loopO_eq]
      unfold pool_Twice_l22
      rw [if_neg (by simp)]; rfl
include hR in
theorem twice_eq : pool_Twice (R.map rowM) = some (tw R) := by
  unfold pool_Twice
  have key : loopO (fun x : ((List (List UInt8)) × Int) => pool_Twice_l8 x.1 (R.map rowM) ((R.map rowM).length : Int) x.2) (([] : List (List UInt8)), 0) = some (if tw R then .inl true else .inr ()) := by
    refine pre_loop R (fun xs => (SN xs, (xs.length : Int))) (fun xs => tw xs = false) _ (fun xs v ys h hJ => ?_) (fun hJ => ?_) rfl
    · have hl := len_lt h
      have e : pool_Twice_l8 (SN xs) (R.map rowM) ((R.map rowM).length : Int) (xs.length : Int) = some (if tw1 xs v then .out (.inl true) else .next (SN (xs ++ [v]), ((xs ++ [v]).length : Int))) := by
        unfold pool_Twice_l8
        rw [if_pos (by rw [List.length_map]; simpa using hl), idx_mid_map rowM h, Option.bind_some, twice_in R hR h, Option.bind_some, len_snoc xs v (by omega)]
        cases tw1 xs v <;> rfl
      cases ht : tw1 xs v with
      | true =>
        right
        show pool_Twice_l8 (SN xs) (R.map rowM) ((R.map rowM).length : Int) (xs.length : Int) = _
        have : tw R = true := by
          rw [h, show xs ++ v :: ys = (xs ++ [v]) ++ ys from by simp]
          exact tw_mono _ _ (by rw [tw_snoc, ht]; simp)
        rw [e, ht, this]; rfl
      | false =>
        left
        refine ⟨?_, by rw [tw_snoc, hJ, ht]; rfl⟩
        show pool_Twice_l8 (SN xs) (R.map rowM) ((R.map rowM).length : Int) (xs.length : Int) = _
        rw [e, ht]; rfl
    · show pool_Twice_l8 (SN R) (R.map rowM) ((R.map rowM).length : Int) (R.length : Int) = _
      unfold pool_Twice_l8
      rw [if_neg (by simp), hJ]; rfl
  rw [key]
  cases tw R <;> rfl
/-! what is lost -/
noncomputable def inMade (k : Int) : Bool := decide (rd (OM R R).2 k ≥ 0)
theorem MD_any (b : Int) : (MD R R).any (fun y => y.Name == nm b) = inMade R (ky b) := by
  have h := OM_ok R R
  rw [← fi_ge]
  unfold MD
  rw [fi_MD R h, fi_ge]
  unfold inMade
  cases hd : decide (rd (OM R R).2 (ky b) ≥ 0) with
  | true =>
    simp only [decide_eq_true_eq] at hd
    exact List.any_eq_true.2 ⟨_, h.all _ (ky_in b) hd, by simp⟩
  | false =>
    simp only [decide_eq_false_iff_not] at hd
    rw [List.any_eq_false]
    intro x hx
    simp only [decide_eq_true_eq]
    intro e; subst e
    exact hd (h.mem _ hx).2.1
noncomputable def lo1 (s : List (List UInt8)) (v : A4 Int) : Bool := gB R (ky v.a0) || inMade R (ky v.a0) || s.any (fun z => nm v.a0 == z)
noncomputable def stepL (s : List (List UInt8)) (v : A4 Int) : List (List UInt8) := if lo1 R s v then s else s ++ [nm v.a0]
noncomputable def LS (xs : List (A4 Int)) : List (List UInt8) := xs.foldl (stepL R) []
theorem LS_snoc (xs : List (A4 Int)) (v : A4 Int) : LS R (xs ++ [v]) = stepL R (LS R xs) v := by
  unfold LS; rw [List.foldl_append]; rfl
theorem LS_len (xs : List (A4 Int)) : (LS R xs).length ≤ xs.length := by
  refine snoc_ind (p := fun xs => (LS R xs).length ≤ xs.length) ?_ ?_ xs
  · simp [LS]
  · intro xs v h
    rw [LS_snoc]; unfold stepL
    split <;> simp only [List.length_append, List.length_cons, List.length_nil] <;> omega
theorem LS_pre (xs ys : List (A4 Int)) : ∃ t, LS R (xs ++ ys) = LS R xs ++ t := by
  induction ys generalizing xs with
  | nil => exact ⟨[], by simp⟩
  | cons v ys ih =>
    obtain ⟨t, ht⟩ := ih (xs ++ [v])
    rw [show xs ++ v :: ys = (xs ++ [v]) ++ ys from by simp, ht, LS_snoc]
    unfold stepL
    split
    · exact ⟨t, rfl⟩
    · exact ⟨nm v.a0 :: t, by simp⟩
/-- what a row lets be made is given, or made -/
theorem row_made {xs ys : List (A4 Int)} {v : A4 Int} (h : R = xs ++ v :: ys) (h8 : has8 v.a2 = true) : gB R (ky v.a2) = true ∨ inMade R (ky v.a2) = true := by
  cases hg : gB R (ky v.a2) with
  | true => exact .inl rfl
  | false =>
    right
    have h0 : ∀ zs, rd (OM R ((xs ++ [v]) ++ zs)).2 (ky v.a2) ≥ 0 := by
      intro zs
      refine snoc_ind (p := fun zs => rd (OM R ((xs ++ [v]) ++ zs)).2 (ky v.a2) ≥ 0) ?_ ?_ zs
      · rw [List.append_nil, OM_snoc]
        unfold stepOM
        have hn := ln_in v.a3
        rw [h8, hg, if_pos (by rfl)]
        simp only
        rw [rd_set _ _ (ky_in _) (ky_in _), if_pos rfl, mxI_eq]; omega
      · intro zs w ih
        rw [← List.append_assoc, OM_snoc]
        unfold stepOM
        split
        · simp only
          rw [rd_set _ _ (ky_in _) (ky_in _)]
          have hn := ln_in w.a3
          split
          · rw [mxI_eq]; omega
          · exact ih
        · exact ih
    have := h0 ys
    rw [show (xs ++ [v]) ++ ys = R from by rw [h]; simp] at this
    unfold inMade; simpa using this
include hR in
theorem lost_in {xs ys : List (A4 Int)} {v : A4 Int} (h : R = xs ++ v :: ys) (i t12 : Int) (t11 : List Module) :
    loopO (fun x : ((List (List UInt8)) × Int) => pool_Lost_l24 x.1 (MD R R) (R.map rowM) t11 t12 i (rowM v).Exts ((rowM v).Exts.length : Int) x.2) (LS R xs, 0) = some (LS R (xs ++ [v])) := by
  have hl := len_lt h
  have hll := LS_len R xs
  have hml : (MD R R).length ≤ 1000 := by
    have := OM_len R R
    unfold MD; rw [List.length_map]; omega
  have s0 : ∀ es : List Ext, pool_Lost_l24 (LS R xs) (MD R R) (R.map rowM) t11 t12 i (tk (nm v.a0) :: es) ((tk (nm v.a0) :: es).length : Int) 0 = some (.next (LS R (xs ++ [v]), 1)) := by
    intro es
    unfold pool_Lost_l24
    rw [if_pos (by simp only [List.length_cons, decide_eq_true_eq]; omega), show idx (tk (nm v.a0) :: es) 0 = some (tk (nm v.a0)) from rfl, Option.bind_some, show (tk (nm v.a0)).Name = nm v.a0 from rfl, given_rows R (by omega), Option.bind_some, LS_snoc]
    have e2 : IntKind.wrap .i64 ((0 : Int) + 1) = 1 := rfl
    unfold stepL lo1
    by_cases d : fi (P_ (ky v.a0)) R ≥ 0
    · have hg : gB R (ky v.a0) = true := by unfold gB; simpa using d
      rw [if_pos (by simpa using d), e2, hg]; simp
    · have hg : gB R (ky v.a0) = false := by unfold gB; simp; omega
      rw [if_neg (by simpa using d), any_str _ _ (by omega), Option.bind_some, hg, e2]
      cases ha : (LS R xs).any (fun z => nm v.a0 == z) with
      | true => simp
      | false =>
        rw [if_neg (by simp), any_lost _ _ hml, Option.bind_some]
        simp only
        rw [MD_any]
        cases inMade R (ky v.a0) with
        | true => simp
        | false =>
          simp only [Bool.false_eq_true, if_false, Bool.or_self]
          rw [grow_eq (by simp only [List.length_cons, List.length_nil]; omega) (by simp only [List.length_cons, List.length_nil]; omega)]; rfl
  have hl2 := LS_len R (xs ++ [v])
  rw [List.length_append] at hl2
  simp only [List.length_cons, List.length_nil] at hl2
  cases h8 : has8 v.a2 with
  | false =>
    have he : (rowM v).Exts = [tk (nm v.a0)] := by unfold rowM; rw [h8]; rfl
    rw [he, loopO_eq, s0]
    simp only [Option.bind_some]
    rw [loopO_eq]
    unfold pool_Lost_l24
    rw [if_neg (by simp)]; rfl
  | true =>
    have he : (rowM v).Exts = [tk (nm v.a0), cx v] := by unfold rowM; rw [h8]; rfl
    have hor := row_made R h h8
    rw [he, loopO_eq, s0]
    simp only [Option.bind_some]
    have s1 : pool_Lost_l24 (LS R (xs ++ [v])) (MD R R) (R.map rowM) t11 t12 i [tk (nm v.a0), cx v] (([tk (nm v.a0), cx v] : List Ext).length : Int) 1 = some (.next (LS R (xs ++ [v]), 2)) := by
      unfold pool_Lost_l24
      rw [if_pos (by simp), show idx [tk (nm v.a0), cx v] 1 = some (cx v) from rfl, Option.bind_some, show (cx v).Name = nm v.a2 from rfl, given_rows R (by omega), Option.bind_some]
      have e2 : IntKind.wrap .i64 ((1 : Int) + 1) = 2 := rfl
      by_cases d : fi (P_ (ky v.a2)) R ≥ 0
      · rw [if_pos (by simpa using d), e2]
      · have hg : gB R (ky v.a2) = false := by unfold gB; simp; omega
        have hm : inMade R (ky v.a2) = true := by rcases hor with h1 | h1; (rw [hg] at h1; cases h1); exact h1
        rw [if_neg (by simpa using d), any_str _ _ (by omega), Option.bind_some, e2]
        split
        · rfl
        · rw [any_lost _ _ hml, Option.bind_some]
          simp only
          rw [show (cx v).Name = nm v.a2 from rfl, MD_any, hm]; rfl
    rw [loopO_eq, s1]
    simp only [Option.bind_some]
    rw [loopO_eq]
    unfold pool_Lost_l24
    rw [if_neg (by simp)]; rfl
include hR in
theorem lost_eq : pool_Lost (R.map rowM) = some (LS R R) := by
  unfold pool_Lost
  rw [made_eq R hR, Option.bind_some]
  have key : loopO (fun x : ((List (List UInt8)) × Int) => pool_Lost_l10 x.1 (MD R R) (R.map rowM) (R.map rowM) ((R.map rowM).length : Int) x.2) (([] : List (List UInt8)), 0) = some (LS R R) := by
    refine pre_loop R (fun xs => (LS R xs, (xs.length : Int))) (fun _ => True) _ (fun xs v ys h _ => .inl ⟨?_, trivial⟩) (fun _ => ?_) trivial
    · have hl := len_lt h
      show pool_Lost_l10 (LS R xs) (MD R R) (R.map rowM) (R.map rowM) ((R.map rowM).length : Int) (xs.length : Int) = _
      unfold pool_Lost_l10
      rw [if_pos (by rw [List.length_map]; simpa using hl), idx_mid_map rowM h, Option.bind_some, lost_in R hR h, Option.bind_some, len_snoc xs v (by omega)]
    · show pool_Lost_l10 (LS R R) (MD R R) (R.map rowM) (R.map rowM) ((R.map rowM).length : Int) (R.length : Int) = _
      unfold pool_Lost_l10
      rw [if_neg (by simp)]
  rw [key]; rfl
end
end Go.Es.Pln
