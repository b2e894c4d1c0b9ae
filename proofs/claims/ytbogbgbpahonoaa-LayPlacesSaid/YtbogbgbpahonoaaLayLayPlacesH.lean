/- Segments stand by their classes: in plain Lean. No condition. -/
import Derived.Test.YtbogbgbpahonoaaLayLayMostH
set_option linter.unusedVariables false
set_option linter.unusedSimpArgs false
set_option maxHeartbeats 1000000
set_option maxRecDepth 10000
namespace Go.Es.Lay

def nearC (c : Comb) : Prop := okC c ∧ (c.Class = [65] ∨ c.Class = [66] ∨ c.Class = [67]) ∧ 0 ≤ c.Align ∧ c.Align ≤ 4

theorem tmod_range (x m : Int) (hx : 0 ≤ x) (hm : 0 < m) : 0 ≤ Int.tmod x m ∧ Int.tmod x m < m := ⟨Int.tmod_nonneg _ hx, Int.tmod_lt_of_pos _ hm⟩

theorem near_spec (l : List Comb) (hl : wfL Comb.wf l) : ∃ c, hansomlaw41_near l = some c ∧ c.length ≤ 8 ∧ ∀ x ∈ c, nearC x := by
  unfold hansomlaw41_near
  obtain ⟨b, h1, h2, h3⟩ := loop_rule (f := fun x : List Comb × Int => hansomlaw41_near_l8 x.1 l x.2) (fun x => 0 ≤ x.2 ∧ x.2 ≤ 8 ∧ (x.1.length : Int) = x.2 ∧ ∀ c ∈ x.1, nearC c) (fun x => (8 - x.2).toNat)
    (fun r => r.length ≤ 8 ∧ ∀ c ∈ r, nearC c) (fun x hx => by
      obtain ⟨o, i⟩ := x
      obtain ⟨h0, h1, h2, h3⟩ := hx
      simp only at h0 h1 h2 h3 ⊢
      unfold hansomlaw41_near_l8
      by_cases hi : i < (l.length : Int)
      · by_cases h8 : i < 8
        · left
          have w1 : IntKind.wrap .i64 (i + 1) = i + 1 := wrap64 (by omega) (by omega)
          have hlt : i.toNat < l.length := by omega
          have hw := hl.2 _ (List.getElem_mem hlt)
          simp only [hi, h8, decide_true, if_true, idx_eq h0 hi, Option.bind_some]
          generalize l[i.toNat]'hlt = z at hw
          obtain ⟨_, _, _, _, hF, hO, _⟩ := hw
          have hF := wfI_u16.1 hF
          have hO := wfI_u8.1 hO
          have a1 : bitsOp .and .i64 (shrI .i64 z.Align 3) 255 = shrI .i64 z.Align 3 % 256 := and_mask _ 8 (by omega)
          have a2 : bitsOp .and .i64 z.Combine 3 = z.Combine % 4 := and_mask _ 2 (by omega)
          have a3 : bitsOp .and .i64 z.Len 131071 = z.Len % 131072 := and_mask _ 17 (by omega)
          have a4 : bitsOp .and .i64 z.Len 4095 = z.Len % 4096 := and_mask _ 12 (by omega)
          have a5 : bitsOp .and .i64 z.Align 7 = z.Align % 8 := and_mask _ 3 (by omega)
          rw [a1, a2, a3, a4, a5]
          obtain ⟨t0, t1⟩ := tmod_range (shrI .i64 z.Align 3 % 256) 3 (by omega) (by omega)
          obtain ⟨t2, t3⟩ := tmod_range (z.Align % 8) 5 (by omega) (by omega)
          obtain ⟨t4, t5⟩ := tmod_range (z.Len % 131072) 65537 (by omega) (by omega)
          generalize Int.tmod (shrI .i64 z.Align 3 % 256) 3 = q at t0 t1
          generalize Int.tmod (z.Align % 8) 5 = al at t2 t3
          generalize Int.tmod (z.Len % 131072) 65537 = le at t4 t5
          have hcl : ∃ cl, idx [([65] : List UInt8), [66], [67]] q = some cl ∧ (cl = [65] ∨ cl = [66] ∨ cl = [67]) := by
            have : q = 0 ∨ q = 1 ∨ q = 2 := by omega
            rcases this with rfl | rfl | rfl
            · exact ⟨[65], rfl, .inl rfl⟩
            · exact ⟨[66], rfl, .inr (.inl rfl)⟩
            · exact ⟨[67], rfl, .inr (.inr rfl)⟩
          obtain ⟨cl, e1, hcl⟩ := hcl
          obtain ⟨cb, e2⟩ : ∃ cb, idx [(0 : Int), 2, 5, 6] (z.Combine % 4) = some cb := by
            have : z.Combine % 4 = 0 ∨ z.Combine % 4 = 1 ∨ z.Combine % 4 = 2 ∨ z.Combine % 4 = 3 := by omega
            rcases this with h | h | h | h <;> rw [h] <;> exact ⟨_, rfl⟩
          rw [e1, Option.bind_some, e2, Option.bind_some]
          have key : ∀ len : Int, 0 ≤ len → len ≤ 65536 → ∃ y, hansomlaw41_near_j25 o [] cl al cb 0 0 len l i = some (.next y) ∧ (0 ≤ y.2 ∧ y.2 ≤ 8 ∧ (y.1.length : Int) = y.2 ∧ ∀ c ∈ y.1, nearC c) ∧ (8 - y.2).toNat < (8 - i).toNat := by
            intro len hl0 hl1
            have fin : ∀ c : Comb, nearC c → ∀ u ∈ o ++ [c], nearC u := fun c hc u hu => by
              rcases List.mem_append.1 hu with hu | hu
              · exact h3 u hu
              · rw [List.mem_singleton] at hu; subst hu; exact hc
            unfold hansomlaw41_near_j25
            by_cases ha : al = 0
            · have hw' := hl.2 _ (List.getElem_mem hlt)
              obtain ⟨_, _, _, _, hF', hO', _⟩ := hw'
              have hF' := wfI_u16.1 hF'
              have hO' := wfI_u8.1 hO'
              simp only [ha, beq_self_eq_true, if_true, idx_eq h0 hi, Option.bind_some]
              rw [grow_eq (by simp; omega) (by simp; omega), Option.bind_some, w1]
              exact ⟨_, rfl, ⟨by simp only; omega, by simp only; omega, by simp only [List.length_append]; simp; omega, fin _ ⟨⟨hl0, hl1, hF'.1, hF'.2, hO'.1, hO'.2⟩, hcl, by simp, by simp⟩⟩, by simp only; omega⟩
            · have ha' : (al == 0) = false := by simpa using ha
              simp only [ha', Bool.false_eq_true, if_false]
              rw [grow_eq (by simp; omega) (by simp; omega), Option.bind_some, w1]
              exact ⟨_, rfl, ⟨by simp only; omega, by simp only; omega, by simp only [List.length_append]; simp; omega, fin _ ⟨⟨hl0, hl1, by simp, by simp, by simp, by simp⟩, hcl, t2, by simp only; omega⟩⟩, by simp only; omega⟩
          split
          · exact key _ t4 (by omega)
          · exact key _ (by omega) (by omega)
        · exact .inr ⟨o, by simp [hi, h8], by omega, h3⟩
      · exact .inr ⟨o, by simp [hi], by omega, h3⟩) (x := ([], 0)) ⟨by simp, by simp, by simp, by simp⟩
  exact ⟨b, by rw [h1]; rfl, h2, h3⟩

/-- the class' letter, as a number -/
def letter (c : Comb) : Int := match c.Class with | x :: _ => (x.toNat : Int) - 65 | [] => 0
theorem letter_spec (c : Comb) (h : nearC c) : ∃ z, idx c.Class 0 = some z ∧ Int.tmod (IntKind.wrap .i64 (IntKind.wrap .u8 ((z.toNat : Int) - 65))) 3 = letter c ∧ (letter c = 0 ∨ letter c = 1 ∨ letter c = 2) := by
  obtain ⟨_, h, _⟩ := h
  unfold letter
  rcases h with h | h | h <;> rw [h] <;> exact ⟨_, rfl, by kernel_rfl, by decide⟩
theorem letter_eq (c d : Comb) (hc : nearC c) (hd : nearC d) : letter c = letter d ↔ c.Class = d.Class := by
  obtain ⟨_, hc, _⟩ := hc
  obtain ⟨_, hd, _⟩ := hd
  unfold letter
  rcases hc with hc | hc | hc <;> rcases hd with hd | hd | hd <;> rw [hc, hd] <;> decide

/-- number j is the first one of its class -/
def isFirst (l : List Comb) (v j : Int) : Prop := 0 ≤ j ∧ (∃ c d, l[j.toNat]? = some c ∧ l[v.toNat]? = some d ∧ c.Class = d.Class ∧ ∀ k : Nat, (k : Int) < j → ∀ e, l[k]? = some e → e.Class ≠ d.Class)

def before (l : List Comb) (p i : Int) : Prop := ∀ a b, isFirst l p a → isFirst l i b → a < b ∨ (a = b ∧ p < i)

theorem isFirst_unique {l : List Comb} {v w a b : Int} (h : isFirst l v a) (k : isFirst l w b) (hc : l[v.toNat]?.map Comb.Class = l[w.toNat]?.map Comb.Class) : a = b := by
  obtain ⟨h0, c, d, h1, h2, h3, h4⟩ := h
  obtain ⟨k0, c', d', k1, k2, k3, k4⟩ := k
  rw [h2, k2] at hc
  simp only [Option.map_some, Option.some.injEq] at hc
  by_cases hab : a < b
  · exact absurd (h3.trans hc) (k4 a.toNat (by omega) c h1)
  · by_cases hba : b < a
    · exact absurd (k3.trans hc.symm) (h4 b.toNat (by omega) c' k1)
    · omega

theorem ord_before {l : List Comb} : ∀ {i : Nat}, i ≤ l.length → (ord l i).Pairwise (before l)
  | 0, _ => by simp [ord]
  | i + 1, hi => by
    have ih := ord_before (l := l) (i := i) (by omega)
    have hlt : i < l.length := by omega
    simp only [ord, List.getElem?_eq_getElem hlt]
    split
    · exact ih
    · rename_i hin
      have hnew : ∀ v ∈ ofClass l l[i].Class l.length, ∀ b, isFirst l v b → b = i := by
        intro v hv b hb
        obtain ⟨k, h1, h2, rfl⟩ := mem_ofClass.1 hv
        refine isFirst_unique (v := (k : Int)) (w := (i : Int)) hb ⟨by omega, l[i], l[i], by simp [List.getElem?_eq_getElem hlt], by simp [List.getElem?_eq_getElem hlt], rfl, fun j hj e he hcl => ?_⟩ (by simp only [Int.toNat_natCast]; rw [h2, List.getElem?_eq_getElem hlt]; rfl)
        apply hin
        refine (mem_ord (by omega)).2 ⟨i, hlt, rfl, j, by omega, ?_⟩
        rw [he, List.getElem?_eq_getElem hlt]; simp [hcl]
      rw [List.pairwise_append]
      refine ⟨ih, ?_, ?_⟩
      · refine ((ofClass_sorted l l[i].Class l.length).imp_of_mem ?_)
        intro p q hp hq hpq a b ha hb
        have := hnew p hp a ha
        have := hnew q hq b hb
        exact .inr ⟨by omega, hpq⟩
      · intro p hp q hq a b ha hb
        have hb' := hnew q hq b hb
        obtain ⟨k, h1, rfl, j, h3, h4⟩ := (mem_ord (by omega)).1 hp
        obtain ⟨h0, c, d, e1, e2, e3, e4⟩ := ha
        left
        by_cases hlt' : a < b
        · exact hlt'
        · exfalso
          rw [Int.toNat_natCast] at e2
          have hj : j < l.length := by omega
          rw [List.getElem?_eq_getElem hj, e2] at h4
          simp only [Option.map_some, Option.some.injEq] at h4
          exact e4 j (by omega) l[j] (List.getElem?_eq_getElem hj) h4

/-- what a letter's place in the array of the firsts says: of the numbers behind i -/
def FI (l : List Comb) (x : Int) (i v : Int) : Prop :=
  (v = 9 ∧ ∀ j : Nat, i < (j : Int) → ∀ e, l[j]? = some e → letter e ≠ x) ∨ (i < v ∧ ∃ c, l[v.toNat]? = some c ∧ letter c = x ∧ ∀ j : Nat, i < (j : Int) → (j : Int) < v → ∀ e, l[j]? = some e → letter e ≠ x)
def isStack (c : Comb) : Prop := c.Combine = 5 ∧ c.Len > 0
def SI (l : List Comb) (i v : Int) : Prop :=
  (v = -1 ∧ ∀ j : Nat, i < (j : Int) → ∀ e, l[j]? = some e → ¬ isStack e) ∨ (i < v ∧ ∃ c, l[v.toNat]? = some c ∧ isStack c ∧ ∀ j : Nat, i < (j : Int) → (j : Int) < v → ∀ e, l[j]? = some e → ¬ isStack e)

theorem FI_here (l : List Comb) (x i : Int) (c : Comb) (h0 : 0 ≤ i) (hc : l[i.toNat]? = some c) (hx : letter c = x) : FI l x (i - 1) i :=
  .inr ⟨by omega, c, hc, hx, fun j h1 h2 => by omega⟩
theorem FI_skip {l : List Comb} {x i v : Int} {c : Comb} (h0 : 0 ≤ i) (hc : l[i.toNat]? = some c) (hx : letter c ≠ x) (h : FI l x i v) : FI l x (i - 1) v := by
  have step : ∀ j : Nat, i - 1 < (j : Int) → ¬ i < (j : Int) → ∀ e, l[j]? = some e → letter e ≠ x := fun j h1 h2 e he => by
    obtain rfl : j = i.toNat := by omega
    rw [hc] at he; cases he; exact hx
  rcases h with ⟨rfl, h⟩ | ⟨h1, d, h2, h3, h4⟩
  · exact .inl ⟨rfl, fun j hj e he => if hh : i < (j : Int) then h j hh e he else step j hj hh e he⟩
  · exact .inr ⟨by omega, d, h2, h3, fun j hj hj2 e he => if hh : i < (j : Int) then h4 j hh hj2 e he else step j hj hh e he⟩
theorem SI_here (l : List Comb) (i : Int) (c : Comb) (h0 : 0 ≤ i) (hc : l[i.toNat]? = some c) (hx : isStack c) : SI l (i - 1) i :=
  .inr ⟨by omega, c, hc, hx, fun j h1 h2 => by omega⟩
theorem SI_skip {l : List Comb} {i v : Int} {c : Comb} (h0 : 0 ≤ i) (hc : l[i.toNat]? = some c) (hx : ¬ isStack c) (h : SI l i v) : SI l (i - 1) v := by
  have step : ∀ j : Nat, i - 1 < (j : Int) → ¬ i < (j : Int) → ∀ e, l[j]? = some e → ¬ isStack e := fun j h1 h2 e he => by
    obtain rfl : j = i.toNat := by omega
    rw [hc] at he; cases he; exact hx
  rcases h with ⟨rfl, h⟩ | ⟨h1, d, h2, h3, h4⟩
  · exact .inl ⟨rfl, fun j hj e he => if hh : i < (j : Int) then h j hh e he else step j hj hh e he⟩
  · exact .inr ⟨by omega, d, h2, h3, fun j hj hj2 e he => if hh : i < (j : Int) then h4 j hh hj2 e he else step j hj hh e he⟩

def F3 (l : List Comb) (f : A3 Int) (i : Int) : Prop := FI l 0 i f.a0 ∧ FI l 1 i f.a1 ∧ FI l 2 i f.a2

theorem firsts_spec (x5 : api_Layout) (seen : A8 Bool) (c : List Comb) (o : List Int) (at_ : Int) (hn : c.length ≤ 8) (hc : ∀ x ∈ c, nearC x) :
    ∃ f st, loopO (fun x : A3 Int × Int × Int => hansomlaw41_LayPlaces_l24 x5 seen x.1 c o at_ x.2.1 x.2.2) (⟨9, 9, 9⟩, -1, (c.length : Int) - 1) = some (f, st) ∧ F3 c f (-1) ∧ SI c (-1) st := by
  have out : ∀ (j : Nat) (e : Comb), (c.length : Int) - 1 < (j : Int) → c[j]? = some e → False := fun j e hj he => by
    have := (List.getElem?_eq_some_iff.1 he).1
    omega
  obtain ⟨⟨f, st⟩, h1, h2, h3⟩ := loop_rule (f := fun x : A3 Int × Int × Int => hansomlaw41_LayPlaces_l24 x5 seen x.1 c o at_ x.2.1 x.2.2)
    (fun x => -1 ≤ x.2.2 ∧ x.2.2 < c.length ∧ F3 c x.1 x.2.2 ∧ SI c x.2.2 x.2.1) (fun x => (x.2.2 + 1).toNat) (fun r => F3 c r.1 (-1) ∧ SI c (-1) r.2) (fun x hx => by
      obtain ⟨f, st, i⟩ := x
      obtain ⟨h0, h1, h2, h3⟩ := hx
      simp only at h0 h1 h2 h3 ⊢
      unfold hansomlaw41_LayPlaces_l24
      by_cases hi : i ≥ 0
      · left
        have hlt : i.toNat < c.length := by omega
        have hmem := hc _ (List.getElem_mem hlt)
        have hcc : c[i.toNat]? = some (c[i.toNat]'hlt) := List.getElem?_eq_getElem hlt
        have w1 : IntKind.wrap .i64 (i - 1) = i - 1 := wrap64 (by omega) (by omega)
        simp only [hi, decide_true, if_true, idx_eq hi h1, Option.bind_some]
        generalize c[i.toNat]'hlt = z at hmem hcc
        obtain ⟨y, e1, e2, e3⟩ := letter_spec z hmem
        rw [e1, Option.bind_some, e2]
        obtain ⟨a0, a1, a2⟩ := f
        obtain ⟨f0, f1, f2⟩ := h2
        simp only at f0 f1 f2
        have hset : ∃ f', (idx (A3.mk a0 a1 a2).l (letter z)).isSome = true ∧ A3.set ⟨a0, a1, a2⟩ (letter z) i = f' ∧ F3 c f' (i - 1) := by
          rcases e3 with h | h | h <;> rw [h]
          · exact ⟨⟨i, a1, a2⟩, rfl, rfl, FI_here c 0 i z hi hcc h, FI_skip hi hcc (by omega) f1, FI_skip hi hcc (by omega) f2⟩
          · exact ⟨⟨a0, i, a2⟩, rfl, rfl, FI_skip hi hcc (by omega) f0, FI_here c 1 i z hi hcc h, FI_skip hi hcc (by omega) f2⟩
          · exact ⟨⟨a0, a1, i⟩, rfl, rfl, FI_skip hi hcc (by omega) f0, FI_skip hi hcc (by omega) f1, FI_here c 2 i z hi hcc h⟩
        obtain ⟨f', h4, h5, h6⟩ := hset
        obtain ⟨w, hw⟩ := Option.isSome_iff_exists.1 h4
        rw [hw, Option.bind_some, h5]
        by_cases hcb : z.Combine = 5
        · by_cases hlen : z.Len > 0
          · exact ⟨(f', i, i - 1), by simp [hcb, hlen, w1], ⟨by simp only; omega, by simp only; omega, h6, SI_here c i z hi hcc ⟨hcb, hlen⟩⟩, by simp only; omega⟩
          · exact ⟨(f', st, i - 1), by simp [hcb, hlen, w1], ⟨by simp only; omega, by simp only; omega, h6, SI_skip hi hcc (fun h => hlen h.2) h3⟩, by simp only; omega⟩
        · exact ⟨(f', st, i - 1), by simp [hcb, w1], ⟨by simp only; omega, by simp only; omega, h6, SI_skip hi hcc (fun h => hcb h.1) h3⟩, by simp only; omega⟩
      · right
        obtain rfl : i = -1 := by omega
        exact ⟨(f, st), by simp, h2, h3⟩) (x := (⟨9, 9, 9⟩, -1, (c.length : Int) - 1))
    ⟨by simp only; omega, by simp only; omega, ⟨.inl ⟨rfl, fun j hj e he => (out j e hj he).elim⟩, .inl ⟨rfl, fun j hj e he => (out j e hj he).elim⟩, .inl ⟨rfl, fun j hj e he => (out j e hj he).elim⟩⟩, .inl ⟨rfl, fun j hj e he => (out j e hj he).elim⟩⟩
  exact ⟨f, st, h1, h2, h3⟩

/-! ### what the reference says -/
theorem ref_up (n a : Int) (h0 : 0 ≤ n) (h1 : n ≤ 16777216) : hansomref01_Up n (stepOf a) = some (up n (stepOf a)) := by
  have key : ∀ s : Int, 1 ≤ s → s ≤ 256 → loopO (fun x : Bool × Int => hansomref01_Up_l8 n s x.1 x.2) (false, 1) = some true → hansomref01_Up n s = some (up n s) := by
    intro s hs1 hs2 hl
    unfold hansomref01_Up
    rw [hl, Option.bind_some]
    simp only [Bool.not_true, Bool.false_eq_true, if_false]
    unfold hansomref01_Up_j25
    have c1 : ¬ n < 0 := by omega
    have c2 : ¬ n > 16777216 := by omega
    simp only [c1, c2, decide_false, Bool.false_eq_true, if_false]
    rw [wrap64 (n := n + s) (by omega) (by omega), wrap64 (n := n + s - 1) (by omega) (by omega)]
    unfold quoI
    rw [if_neg (by omega : ¬ s = 0), Int.tdiv_eq_ediv_of_nonneg (by omega)]
    have hq0 : 0 ≤ (n + s - 1) / s := Int.ediv_nonneg (by omega) (by omega)
    have hq1 : (n + s - 1) / s * s ≤ n + s - 1 := Int.ediv_mul_le _ (by omega)
    have hq2 : (n + s - 1) / s ≤ n + s - 1 := Int.ediv_le_self _ (by omega)
    have hq3 : 0 ≤ (n + s - 1) / s * s := Int.mul_nonneg hq0 (by omega)
    rw [wrap64 (n := (n + s - 1) / s) (by omega) (by omega), Option.bind_some, wrap64 (by omega) (by omega)]
    rfl
  unfold stepOf
  split
  · exact key 2 (by omega) (by omega) (loopO_iff.2 ⟨14, by kernel_rfl⟩)
  · split
    · exact key 16 (by omega) (by omega) (loopO_iff.2 ⟨14, by kernel_rfl⟩)
    · split
      · exact key 256 (by omega) (by omega) (loopO_iff.2 ⟨14, by kernel_rfl⟩)
      · exact key 1 (by omega) (by omega) (loopO_iff.2 ⟨14, by kernel_rfl⟩)

theorem step_idx (a : Int) (h0 : 0 ≤ a) (h4 : a ≤ 4) (h : a ≠ 0) : idx [(1 : Int), 1, 2, 16, 256] a = some (stepOf a) := by
  have : a = 1 ∨ a = 2 ∨ a = 3 ∨ a = 4 := by omega
  rcases this with rfl | rfl | rfl | rfl <;> rfl

theorem stack_spec (l : List Comb) (hn : l.length ≤ 20) : ∃ r, lay_Stack l = some r ∧ SI l (-1) r := by
  unfold lay_Stack slices_IndexFunc_LComb_lay_Stack_1
  obtain ⟨b, h1, h2⟩ := loop_rule (f := fun x : Int => slices_IndexFunc_LComb_lay_Stack_1_l6 l (l.length : Int) x) (fun i => 0 ≤ i ∧ i ≤ l.length ∧ ∀ j : Nat, (j : Int) < i → ∀ e, l[j]? = some e → ¬ isStack e) (fun i => (l.length - i).toNat)
    (fun r => (∃ i, r = .inl i ∧ SI l (-1) i) ∨ (r = .inr () ∧ SI l (-1) (-1))) (fun i hi => by
      obtain ⟨h0, h1, h2⟩ := hi
      unfold slices_IndexFunc_LComb_lay_Stack_1_l6
      by_cases hi : i < (l.length : Int)
      · have hlt : i.toNat < l.length := by omega
        have hcc : l[i.toNat]? = some (l[i.toNat]'hlt) := List.getElem?_eq_getElem hlt
        have w1 : IntKind.wrap .i64 (i + 1) = i + 1 := wrap64 (by omega) (by omega)
        simp only [hi, decide_true, if_true, idx_eq h0 hi, Option.bind_some]
        generalize l[i.toNat]'hlt = z at hcc
        by_cases hs : isStack z
        · right
          exact ⟨.inl i, by simp [lay_Stack_1, hs.1, hs.2], .inl ⟨i, rfl, .inr ⟨by omega, z, hcc, hs, fun j _ h4 => h2 j h4⟩⟩⟩
        · left
          have hr : lay_Stack_1 z = some false := by
            unfold lay_Stack_1
            by_cases h5 : z.Combine = 5
            · have : ¬ z.Len > 0 := fun h => hs ⟨h5, h⟩
              simp [h5, this]
            · simp [h5]
          refine ⟨i + 1, by simp [hr, w1], ⟨by omega, by omega, fun j hj e he => ?_⟩, by omega⟩
          by_cases hh : (j : Int) < i
          · exact h2 j hh e he
          · obtain rfl : j = i.toNat := by omega
            rw [hcc] at he; cases he; exact hs
      · right
        exact ⟨.inr (), by simp [hi], .inr ⟨rfl, .inl ⟨rfl, fun j _ e he => h2 j (by have := (List.getElem?_eq_some_iff.1 he).1; omega) e he⟩⟩⟩) (x := (0 : Int)) ⟨by simp, by simp, fun j hj => by omega⟩
  rw [h1]
  rcases h2 with ⟨i, rfl, h3⟩ | ⟨rfl, h3⟩
  · exact ⟨i, rfl, h3⟩
  · exact ⟨-1, rfl, h3⟩

theorem SI_unique {l : List Comb} {a b : Int} (h : SI l (-1) a) (k : SI l (-1) b) : a = b := by
  rcases h with ⟨rfl, h⟩ | ⟨h1, c, h2, h3, h4⟩
  · rcases k with ⟨rfl, k⟩ | ⟨k1, d, k2, k3, k4⟩
    · rfl
    · exact absurd k3 (h b.toNat (by omega) d k2)
  · rcases k with ⟨rfl, k⟩ | ⟨k1, d, k2, k3, k4⟩
    · exact absurd h3 (k a.toNat (by omega) c h2)
    · by_cases hab : a < b
      · exact absurd h3 (k4 a.toNat (by omega) (by omega) c h2)
      · by_cases hba : b < a
        · exact absurd k3 (h4 b.toNat (by omega) (by omega) d k2)
        · omega

/-- the array's place for a number's letter is the first of its class -/
theorem first_at {l : List Comb} (hc : ∀ x ∈ l, nearC x) {f : A3 Int} (h : F3 l f (-1)) {v : Int} {c : Comb} (h0 : 0 ≤ v) (hv : l[v.toNat]? = some c) : ∃ a, idx f.l (letter c) = some a ∧ isFirst l v a := by
  obtain ⟨y, _, _, e3⟩ := letter_spec c (hc c (List.mem_of_getElem? hv))
  have main : ∀ a, FI l (letter c) (-1) a → isFirst l v a := by
    intro a ha
    rcases ha with ⟨_, ha⟩ | ⟨h1, d, h2, h3, h4⟩
    · exact absurd rfl (ha v.toNat (by omega) c hv)
    · refine ⟨by omega, d, c, h2, hv, (letter_eq d c (hc d (List.mem_of_getElem? h2)) (hc c (List.mem_of_getElem? hv))).1 h3, fun k hk e he hcl => ?_⟩
      exact h4 k (by omega) hk e he ((letter_eq e c (hc e (List.mem_of_getElem? he)) (hc c (List.mem_of_getElem? hv))).2 hcl)
  obtain ⟨f0, f1, f2⟩ := h
  rcases e3 with h | h | h
  · exact ⟨f.a0, by rw [h]; rfl, main _ (by rw [h]; exact f0)⟩
  · exact ⟨f.a1, by rw [h]; rfl, main _ (by rw [h]; exact f1)⟩
  · exact ⟨f.a2, by rw [h]; rfl, main _ (by rw [h]; exact f2)⟩

theorem ats_le (l : List Comb) (hc : ∀ c ∈ l, okC c) (o : List Int) : ∀ k, k ≤ o.length → ats l o k ≤ k * 65791
  | 0, _ => by simp [ats]
  | k + 1, h => by
    have := ats_le l hc o k (by omega)
    have h2 := (behind_ge l hc (ats l o k) (o[k]'(by omega))).2
    rw [ats_succ l o k (by omega)]
    omega

/-- the eight marks: those of the first k -/
def Seen (o : List Int) (s : A8 Bool) (k : Nat) : Prop := ∀ v : Int, 0 ≤ v → v < 8 → ∀ b, idx s.l v = some b → (b = true ↔ v ∈ o.take k)

theorem a8_get (s : A8 Bool) (v : Int) (h0 : 0 ≤ v) (h8 : v < 8) : ∃ b, idx s.l v = some b := by
  rw [idx_eq h0 (by rw [A8.len]; omega)]; exact ⟨_, rfl⟩
theorem a8_set (s : A8 Bool) (v w : Int) (h0 : 0 ≤ v) (h8 : v < 8) (w0 : 0 ≤ w) (b : Bool) : idx (s.set v b).l w = if w = v then some b else idx s.l w := by
  obtain ⟨z, hz⟩ := a8_get s v h0 h8
  by_cases h : w = v
  · subst h; rw [if_pos rfl]; exact A8.get_set hz
  · rw [if_neg h, ← A8.setl hz]
    unfold idx
    rw [if_pos w0, if_pos w0, List.getElem?_set_ne (by omega)]

theorem seen_next {o : List Int} {s : A8 Bool} {k : Nat} (hk : k < o.length) (hv0 : 0 ≤ o[k]) (hv8 : o[k] < 8) (h : Seen o s k) : Seen o (s.set o[k] true) (k + 1) := by
  intro v h0 h8 b hb
  rw [a8_set s _ v hv0 hv8 h0] at hb
  rw [List.take_add_one, List.getElem?_eq_getElem hk, List.mem_append]
  split at hb
  · rename_i he
    cases hb
    subst he
    simp
  · rename_i he
    have := h v h0 h8 b hb
    rw [this]
    simp [he]

theorem check_spec (c : List Comb) (hn : c.length ≤ 8) (hc : ∀ x ∈ c, nearC x) (f : A3 Int) (hf : F3 c f (-1)) (stk : Int) (st : List Int) (fx : List Bool) (gs : List Group) (sz : Int) (hL : Laid c (ord c c.length) st fx c.length) :
    loopO (fun x : A8 Bool × Int × Int => hansomlaw41_LayPlaces_l45 ⟨st, fx, gs, sz⟩ x.1 f c (ord c c.length) x.2.1 stk x.2.2) (⟨false, false, false, false, false, false, false, false⟩, 0, 0) = some (.inr (ats c (ord c c.length) c.length)) := by
  have hok : ∀ x ∈ c, okC x := fun x hx => (hc x hx).1
  have hol := ord_length (l := c)
  have hnd := ord_nodup (l := c) (Nat.le_refl _)
  have hbf := ord_before (l := c) (Nat.le_refl _)
  have hrg : ∀ t (h : t < (ord c c.length).length), 0 ≤ (ord c c.length)[t] ∧ ((ord c c.length)[t]).toNat < c.length := by
    intro t h
    obtain ⟨k, h1, h2, _⟩ := (mem_ord (Nat.le_refl _)).1 (List.getElem_mem h)
    omega
  generalize ord c c.length = o at hol hnd hbf hrg hL
  obtain ⟨hst, hfx, hL, _⟩ := hL
  refine loop_to (f := fun x : A8 Bool × Int × Int => hansomlaw41_LayPlaces_l45 ⟨st, fx, gs, sz⟩ x.1 f c o x.2.1 stk x.2.2) (fun _ => .inr (ats c o c.length))
    (fun x => 0 ≤ x.2.2 ∧ x.2.2 ≤ o.length ∧ x.2.1 = ats c o x.2.2.toNat ∧ Seen o x.1 x.2.2.toNat) (fun x => (o.length - x.2.2).toNat) (fun x hx => ?_)
    ⟨by simp, by simp, by simp [ats], fun v h0 h8 b hb => by
      have : v = 0 ∨ v = 1 ∨ v = 2 ∨ v = 3 ∨ v = 4 ∨ v = 5 ∨ v = 6 ∨ v = 7 := by omega
      rcases this with rfl | rfl | rfl | rfl | rfl | rfl | rfl | rfl <;> (cases hb; simp)⟩
  obtain ⟨sn, a, k⟩ := x
  obtain ⟨h0, h1, h2, h3⟩ := hx
  simp only at h0 h1 h2 h3 ⊢
  subst h2
  by_cases hk : k < (o.length : Int)
  · left
    have hlt : k.toNat < o.length := by omega
    obtain ⟨hv0, hv1⟩ := hrg k.toNat hlt
    have w1 : IntKind.wrap .i64 (k + 1) = k + 1 := wrap64 (by omega) (by omega)
    have w2 : IntKind.wrap .i64 (k - 1) = k - 1 := wrap64 (by omega) (by omega)
    have e : (k + 1).toNat = k.toNat + 1 := by omega
    have hsucc := ats_succ c o k.toNat hlt
    have hnn := ats_nonneg c hok o k.toNat (by omega)
    have hle := ats_le c hok o k.toNat (by omega)
    obtain ⟨hs1, hs2⟩ := hL k.toNat hlt (by omega)
    have hsn := seen_next hlt hv0 (by omega) h3
    obtain ⟨b, hb⟩ := a8_get sn o[k.toNat] hv0 (by omega)
    have hbf' : b = false := by
      cases b with
      | false => rfl
      | true =>
        have hm := (h3 _ hv0 (by omega) true hb).1 rfl
        obtain ⟨j, hj, he⟩ := List.mem_iff_getElem.1 hm
        rw [List.getElem_take] at he
        rw [List.length_take] at hj
        exact absurd he (List.pairwise_iff_getElem.1 (List.nodup_iff_pairwise_ne.1 hnd) j k.toNat (by omega) hlt (by omega))
    subst hbf'
    have hand : bitsOp .and .i64 o[k.toNat] 7 = o[k.toNat] := by
      have : bitsOp .and .i64 o[k.toNat] 7 = o[k.toNat] % 8 := and_mask _ 3 (by omega)
      rw [this]; omega
    have hcc : c[o[k.toNat].toNat]? = some (c[o[k.toNat].toNat]'hv1) := List.getElem?_eq_getElem hv1
    have hnr := hc _ (List.getElem_mem hv1)
    have ek : idx o k = some o[k.toNat] := idx_eq h0 hk
    -- the segment itself
    have seg : hansomlaw41_LayPlaces_j82 ⟨st, fx, gs, sz⟩ (A8.set sn o[k.toNat] true) f c o (ats c o k.toNat) stk k o[k.toNat] =
        some (.next (A8.set sn o[k.toNat] true, ats c o (k.toNat + 1), k + 1)) := by
      rw [hsucc]
      unfold behind begins fixed at *
      rw [hcc] at hs1 hs2 ⊢
      generalize o[k.toNat] = v at hv0 hv1 hs1 hs2 hcc
      have i1 : idx c v = some (c[v.toNat]'hv1) := idx_eq hv0 (by omega)
      have i2 : idx st v = st[v.toNat]? := by unfold idx; rw [if_pos hv0]
      have i3 : idx fx v = fx[v.toNat]? := by unfold idx; rw [if_pos hv0]
      simp only at hs1 hs2 ⊢
      unfold hansomlaw41_LayPlaces_j82
      simp only [i1, i2, i3, Option.bind_some]
      generalize c[v.toNat]'hv1 = z at hs1 hs2 hnr
      obtain ⟨⟨z1, z2, z3, z4, z5, z6⟩, _, z7, z8⟩ := hnr
      by_cases ha : z.Align = 0
      · rw [if_pos ha] at hs1
        rw [hs1, hs2]
        have w3 : IntKind.wrap .i64 (IntKind.wrap .i64 (IntKind.wrap .i64 z.Frame * 16) + IntKind.wrap .i64 z.Offset) = z.Frame * 16 + z.Offset := by
          rw [wrap64 (n := z.Frame) (by omega) (by omega), wrap64 (n := z.Offset) (by omega) (by omega), wrap64 (n := z.Frame * 16) (by omega) (by omega), wrap64 (by omega) (by omega)]
        simp [ha, w1, w3]
      · rw [if_neg ha] at hs1
        rw [hs1, hs2]
        have hug := up_ge (ats c o k.toNat) z.Align
        have hkk : (k.toNat : Int) ≤ 8 := by omega
        have hsm : ats c o k.toNat ≤ 16777216 := by omega
        have ha' : (z.Align == 0) = false := by simpa using ha
        have hp : lay_Para ⟨st, fx, gs, sz⟩ v = some (up (ats c o k.toNat) (stepOf z.Align) / 16) := by
          unfold lay_Para
          have : ¬ v ≥ (st.length : Int) := by omega
          simp only [show ¬ v < 0 by omega, this, decide_false, Bool.false_eq_true, if_false, i2, hs1, Option.bind_some]
          rw [show shrI .i64 (up (ats c o k.toNat) (stepOf z.Align)) 4 = up (ats c o k.toNat) (stepOf z.Align) / 16 from shr_eq (j := 4) (by decide)]
        have w4 : IntKind.wrap .i64 (up (ats c o k.toNat) (stepOf z.Align) + z.Len) = up (ats c o k.toNat) (stepOf z.Align) + z.Len := wrap64 (by omega) (by omega)
        have w5 : IntKind.wrap .i64 (Int.tdiv (up (ats c o k.toNat) (stepOf z.Align)) 16) = up (ats c o k.toNat) (stepOf z.Align) / 16 := by
          rw [Int.tdiv_eq_ediv_of_nonneg (by omega), wrap64 (by omega) (by omega)]
        simp only [ha', Bool.false_eq_true, if_false, step_idx z.Align z7 z8 ha, Option.bind_some, ref_up _ z.Align hnn hsm, ha, decide_false, bne_self_eq_false, hp, w5, w4, w1]
    unfold hansomlaw41_LayPlaces_l45
    have c1 : ¬ o[k.toNat] < 0 := by omega
    have c2 : ¬ o[k.toNat] ≥ (c.length : Int) := by omega
    simp only [hk, decide_true, if_true, ek, Option.bind_some, c1, c2, decide_false, Bool.false_eq_true, if_false, hand, hb]
    refine ⟨(A8.set sn o[k.toNat] true, ats c o (k.toNat + 1), k + 1), ?_, ⟨by simp only; omega, by simp only; omega, by simp only [e], by simp only [e]; exact hsn⟩, by simp only; omega, trivial⟩
    by_cases hk0 : k > 0
    · have hj : (k - 1).toNat < o.length := by omega
      obtain ⟨hp0, hp1⟩ := hrg (k - 1).toNat hj
      have ep : idx o (k - 1) = some o[(k - 1).toNat] := idx_eq (by omega) (by omega)
      have hpc : c[o[(k - 1).toNat].toNat]? = some (c[o[(k - 1).toNat].toNat]'hp1) := List.getElem?_eq_getElem hp1
      have hpn := hc _ (List.getElem_mem hp1)
      have hbp := List.pairwise_iff_getElem.1 hbf (k - 1).toNat k.toNat hj hlt (by omega)
      obtain ⟨a1, f1, g1⟩ := first_at hc hf hp0 hpc
      obtain ⟨a2, f2, g2⟩ := first_at hc hf hv0 hcc
      obtain ⟨y1, l1, m1, _⟩ := letter_spec _ hpn
      obtain ⟨y2, l2, m2, _⟩ := letter_spec _ hnr
      have i1 : idx c o[(k - 1).toNat] = some (c[o[(k - 1).toNat].toNat]'hp1) := idx_eq hp0 (by omega)
      have i2 : idx c o[k.toNat] = some (c[o[k.toNat].toNat]'hv1) := idx_eq hv0 (by omega)
      have hlex := hbp a1 a2 g1 g2
      simp only [hk0, decide_true, if_true, w2, ep, Option.bind_some, i1, i2, l1, l2, m1, m2, f1, f2, seg]
      have d1 : ¬ a1 > a2 := by omega
      simp only [d1, decide_false, Bool.false_eq_true, if_false]
      by_cases heq : a1 = a2
      · have d2 : ¬ o[(k - 1).toNat] ≥ o[k.toNat] := by omega
        simp only [heq, beq_self_eq_true, if_true, d2, decide_false, Bool.false_eq_true, if_false]
      · have : (a1 == a2) = false := by simpa using heq
        simp [this]
    · simp only [hk0, decide_false, Bool.false_eq_true, if_false, seg]
  · right
    unfold hansomlaw41_LayPlaces_l45
    have : k.toNat = c.length := by omega
    simp [hk, this]

theorem layPlaces_true (l : List Comb) (hl : wfL Comb.wf l) : hansomlaw41_LayPlaces l = some true := by
  unfold hansomlaw41_LayPlaces
  obtain ⟨c, h1, hn, hc⟩ := near_spec l hl
  have hok : ∀ x ∈ c, okC x := fun x hx => (hc x hx).1
  rw [h1, Option.bind_some, order_spec c (by omega), Option.bind_some]
  have hol := ord_length (l := c)
  have hle := ats_le c hok (ord c c.length) c.length (by omega)
  rcases place_spec c (by omega) hok with ⟨h2, _⟩ | ⟨_, st, fx, h2, hL⟩
  · omega
  · obtain ⟨hst, hfx, _⟩ := id hL
    rw [h2, Option.bind_some]
    simp only [hol, hst, hfx, bne_self_eq_false, Bool.false_eq_true, if_false]
    have w0 : IntKind.wrap .i64 ((c.length : Int) - 1) = (c.length : Int) - 1 := wrap64 (by omega) (by omega)
    rw [w0]
    obtain ⟨f, sk, h3, h4, h5⟩ := firsts_spec ⟨st, fx, [], ats c (ord c c.length) c.length⟩ ⟨false, false, false, false, false, false, false, false⟩ c (ord c c.length) 0 hn hc
    rw [h3, Option.bind_some]
    simp only
    rw [check_spec c hn hc f h4 sk st fx _ _ hL, Option.bind_some]
    simp only
    obtain ⟨r, h6, h7⟩ := stack_spec c (by omega)
    have hr := SI_unique h7 h5
    subst hr
    have p1 : ∀ x, lay_Para x (-1) = some 0 := fun x => by unfold lay_Para; simp
    have p2 : lay_Para ⟨st, fx, [], ats c (ord c c.length) c.length⟩ (c.length : Int) = some 0 := by unfold lay_Para; simp [hst]
    rw [awake_true, h6]
    simp [p1, p2]
end Go.Es.Lay
