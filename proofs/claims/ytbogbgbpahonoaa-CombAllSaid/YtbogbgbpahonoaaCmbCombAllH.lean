/- The law CombAll in plain Lean. No condition. -/
import Derived.Test.YtbogbgbpahonoaaCmbCombAddsH
set_option linter.unusedVariables false
set_option linter.unusedSimpArgs false
set_option maxHeartbeats 4000000
set_option maxRecDepth 100000
namespace Go.Es.Cmb
def md (k : Int) : Module := ⟨[], [], [[83], [75]], [⟨1, 2, 0, 0, k, 1, 2, 0⟩, ⟨3, 0, 0, 0, 9, 2, 0, 0⟩], [], [], [], [], false, false, ⟨0, 0, false, 0, 0, 0, 0, 0⟩⟩
def mods (n : Nat) : List Module := (List.range n).map fun i : Nat => md (5 + (i : Int))
def add2 (l : List Comb) (j : Nat) : List Comb := (addL (addL l [83] [75] ⟨1, 2, 0, 0, 5 + (j : Int), 1, 2, 0⟩ j 1).1 [75] [] ⟨3, 0, 0, 0, 9, 2, 0, 0⟩ j 2).1
def base : Nat → List Comb
  | 0 => []
  | j + 1 => add2 (base j) j
theorem mods_spec (l : List Ext) (many : Int) (n : Nat) (hn : n ≤ 3) (h : bitsOp .and .i64 many 3 = (n : Int)) :
    loopO (fun x : List Module × Int => hansomlaw40_CombAll_l8 x.1 l many x.2) ([], 0) = some (mods n) := by
  refine loopO_iter (n := 5) ?_
  have e : (fun x : List Module × Int => hansomlaw40_CombAll_l8 x.1 l many x.2) = fun x : List Module × Int => if decide (x.2 < (n : Int)) then (grow 256 x.1 [md (IntKind.wrap .i64 (5 + x.2))]).bind fun z => some (.next (z, IntKind.wrap .i64 (x.2 + 1))) else some (.out x.1) := by
    funext x
    unfold hansomlaw40_CombAll_l8
    rw [h]; rfl
  rw [e]
  have : n = 0 ∨ n = 1 ∨ n = 2 ∨ n = 3 := by omega
  rcases this with rfl | rfl | rfl | rfl <;> rfl
theorem name1 (k : Int) : omf_Name (md k) 1 = some [83] := rfl
theorem name2 (k : Int) : omf_Name (md k) 2 = some [75] := rfl
theorem name0 (k : Int) : omf_Name (md k) 0 = some [] := rfl
theorem inner (exts : List Ext) (t : List Module) (a b : Int) (j : Nat) (l o1 o2 : List Comb) (hj : j ≤ 3) (hl : l.length ≤ 100) (hc : ∀ c ∈ l, okc c) (hl1 : o1.length ≤ 100) (hc1 : ∀ c ∈ o1, okc c)
    (h1 : addL l [83] [75] ⟨1, 2, 0, 0, 5 + (j : Int), 1, 2, 0⟩ j 1 = (o1, 0)) (h2 : addL o1 [75] [] ⟨3, 0, 0, 0, 9, 2, 0, 0⟩ j 2 = (o2, 0)) :
    loopO (fun x : List Comb × Int => comb_All_l22 (md (5 + (j : Int))) exts x.1 (j : Int) t a b (md (5 + (j : Int))).Segs ((md (5 + (j : Int))).Segs.length : Int) x.2) (l, 0) = some (.inr o2) := by
  have i0 : idx (md (5 + (j : Int))).Segs 0 = some ⟨1, 2, 0, 0, 5 + (j : Int), 1, 2, 0⟩ := rfl
  have i1 : idx (md (5 + (j : Int))).Segs 1 = some ⟨3, 0, 0, 0, 9, 2, 0, 0⟩ := rfl
  have len : ((md (5 + (j : Int))).Segs.length : Int) = 2 := rfl
  have w1 : IntKind.wrap .i64 (0 + 1) = 1 := rfl
  have w2 : IntKind.wrap .i64 (1 + 1) = 2 := rfl
  have a1 := add_spec l [83] [75] ⟨1, 2, 0, 0, 5 + (j : Int), 1, 2, 0⟩ j 1 (by omega) hc ⟨by simp only; omega, by simp only; omega⟩
  have a2 := add_spec o1 [75] [] ⟨3, 0, 0, 0, 9, 2, 0, 0⟩ j 2 (by omega) hc1 (by simp)
  rw [h1] at a1
  rw [h2] at a2
  rw [loopO_eq]
  simp only [comb_All_l22, len, show decide ((0 : Int) < 2) = true from rfl, if_true, i0, Option.bind_some, name1, name2, w1, a1, bne_self_eq_false, Bool.false_eq_true, if_false]
  rw [loopO_eq]
  simp only [comb_All_l22, len, show decide ((1 : Int) < 2) = true from rfl, if_true, i1, Option.bind_some, name2, name0, w2, a2, bne_self_eq_false, Bool.false_eq_true, if_false]
  rw [loopO_eq]
  simp only [comb_All_l22, show decide ((2 : Int) < 2) = false from rfl, Bool.false_eq_true, if_false]
  rfl
theorem okb : ∀ n, n ≤ 3 → ((base n).length ≤ 4 ∧ ∀ c ∈ base n, okc c) := by
  intro n hn
  have : n = 0 ∨ n = 1 ∨ n = 2 ∨ n = 3 := by omega
  have dec : ∀ l : List Comb, (l.length ≤ 4 ∧ ∀ c ∈ l, ((0 ≤ c.Len ∧ c.Len ≤ 65536) ∧ c.Chunks.length ≤ 1000)) → (l.length ≤ 4 ∧ ∀ c ∈ l, okc c) := fun l h => h
  rcases this with rfl | rfl | rfl | rfl <;> exact dec _ (by decide)
theorem step_base (j : Nat) (hj : j < 3) : ∃ o1, o1.length ≤ 100 ∧ (∀ c ∈ o1, okc c) ∧ addL (base j) [83] [75] ⟨1, 2, 0, 0, 5 + (j : Int), 1, 2, 0⟩ j 1 = (o1, 0) ∧ addL o1 [75] [] ⟨3, 0, 0, 0, 9, 2, 0, 0⟩ j 2 = (base (j + 1), 0) := by
  have dec : ∀ l : List Comb, (l.length ≤ 100 ∧ ∀ c ∈ l, ((0 ≤ c.Len ∧ c.Len ≤ 65536) ∧ c.Chunks.length ≤ 1000)) → (l.length ≤ 100 ∧ ∀ c ∈ l, okc c) := fun l h => h
  have : j = 0 ∨ j = 1 ∨ j = 2 := by omega
  rcases this with rfl | rfl | rfl
  · exact ⟨_, (dec _ (by decide)).1, (dec _ (by decide)).2, rfl, rfl⟩
  · exact ⟨_, (dec _ (by decide)).1, (dec _ (by decide)).2, rfl, rfl⟩
  · exact ⟨_, (dec _ (by decide)).1, (dec _ (by decide)).2, rfl, rfl⟩
theorem all_mods (exts : List Ext) (n : Nat) (hn : n ≤ 3) : loopO (fun x : List Comb × Int => comb_All_l8 exts x.1 (mods n) ((mods n).length : Int) x.2) ([], 0) = some (.inr (base n)) := by
  have hlen : (mods n).length = n := by simp [mods]
  refine loop_to (f := fun x : List Comb × Int => comb_All_l8 exts x.1 (mods n) ((mods n).length : Int) x.2) (fun _ => (.inr (base n) : (List Comb × Int) ⊕ List Comb)) (fun x => ∃ j : Nat, x.2 = j ∧ j ≤ n ∧ x.1 = base j) (fun x => (n - x.2).toNat) (fun x hx => ?_) ⟨0, rfl, by omega, rfl⟩
  obtain ⟨l, b⟩ := x
  obtain ⟨j, rfl, hj, hl⟩ := hx
  simp only at hl
  subst hl
  simp only [hlen]
  unfold comb_All_l8
  by_cases hlt : j < n
  · left
    have hjl : j < (mods n).length := by rw [hlen]; exact hlt
    have hg : (mods n)[j]'hjl = md (5 + (j : Int)) := by simp [mods]
    obtain ⟨o1, p1, p2, p3, p4⟩ := step_base j (by omega)
    obtain ⟨b1, b2⟩ := okb j (by omega)
    simp only [show (j : Int) < (n : Int) from by omega, decide_true, if_true, idx_nat hjl, Option.bind_some, hg]
    rw [inner exts (mods n) (n : Int) (j : Int) j (base j) o1 (base (j + 1)) (by omega) (by omega) b2 p1 p2 p3 p4, Option.bind_some]
    refine ⟨_, rfl, ⟨j + 1, ?_, by omega, rfl⟩, ?_, by trivial⟩
    · simp only; rw [wrap64 (by omega) (by omega)]; omega
    · simp only; rw [wrap64 (by omega) (by omega)]; omega
  · right
    have : j = n := by omega
    subst this
    simp
/-! ### what is made -/
theorem addL_append (b r : List Comb) (n k : List UInt8) (d : SegDef) (m s : Int) (hb : ∀ c ∈ b, jn n k d c = false) (h0 : (addL r n k d m s).2 = 0) : addL (b ++ r) n k d m s = (b ++ (addL r n k d m s).1, 0) := by
  have hbn : b.findIdx (jn n k d) = b.length := by
    rw [List.findIdx_eq_length]; exact hb
  have hf : (b ++ r).findIdx (jn n k d) = r.findIdx (jn n k d) + b.length := by
    rw [List.findIdx_append, hbn, if_neg (by omega)]
  unfold addL at h0 ⊢
  rw [hf, List.getElem?_append_right (by omega), Nat.add_sub_cancel]
  cases hr : r[r.findIdx (jn n k d)]? with
  | none =>
    rw [hr] at h0
    simp only at h0 ⊢
    split at h0
    · rename_i h; simp [h]
    · cases h0
  | some c =>
    rw [hr] at h0
    simp only at h0 ⊢
    split at h0
    · rename_i h
      simp only [h, if_true]
      rw [List.set_append_right _ _ (by omega), Nat.add_sub_cancel]
    · cases h0
def NC : List UInt8 := [67, 95, 67, 79, 77, 77, 79, 78]
def NK : List UInt8 := [66, 83, 83]
def FC : List UInt8 := [70, 65, 82, 95, 67, 79, 77, 77, 79, 78]
def FK : List UInt8 := [70, 65, 82, 95, 66, 83, 83]
def isN (c : Comb) : Prop := c.Name = NC ∧ c.Class = NK ∧ c.Align = 2 ∧ c.Combine = 2
def isF (c : Comb) : Prop := c.Class = FK ∧ c.Combine = 0
def okE (e : Ext) : Prop := (e.Com = 97 ∨ e.Com = 98) ∧ 0 ≤ e.Len ∧ e.Len ≤ 255
def okY (x : List Ext) (k : Nat) (c : Comb) (y : Chunk) : Prop := y.Mod = -1 ∧ y.Off % 2 = 0 ∧ 0 ≤ y.Off ∧ y.Off + y.Len ≤ c.Len ∧ ∃ i e, y.Seg = ((i : Nat) : Int) ∧ i < k ∧ x[i]? = some e ∧ y.Len = e.Len ∧ (c.Class = NK ↔ e.Com = 98)
def okR (x : List Ext) (k : Nat) (c : Comb) : Prop := (isN c ∨ isF c) ∧ (0 ≤ c.Len ∧ c.Len ≤ 300 * k) ∧ c.Chunks.length ≤ k ∧ ∀ y ∈ c.Chunks, okY x k c y
def near (e : Ext) : Bool := e.Com == 98
structure Rest (x : List Ext) (k : Nat) (r : List Comb) : Prop where
  len : r.length = (x.take k).countP (fun e => !near e) + (if (x.take k).countP near = 0 then 0 else 1)
  ok : ∀ c ∈ r, okR x k c
  all : ∀ i, i < k → ∃ c ∈ r, ∃ y ∈ c.Chunks, y.Seg = ((i : Nat) : Int)
  one : (∃ c ∈ r, isN c) ↔ (x.take k).countP near ≠ 0
theorem okY.succ {x : List Ext} {k : Nat} {c : Comb} {y : Chunk} (h : okY x k c y) : okY x (k + 1) c y := by
  obtain ⟨h1, h2, h3, h4, i, e, h5, h6, h7⟩ := h
  exact ⟨h1, h2, h3, h4, i, e, h5, by omega, h7⟩
theorem okR.succ {x : List Ext} {k : Nat} {c : Comb} (h : okR x k c) : okR x (k + 1) c := ⟨h.1, ⟨h.2.1.1, by have := h.2.1.2; omega⟩, by have := h.2.2.1; omega, fun y hy => (h.2.2.2 y hy).succ⟩
theorem NKFK : NK ≠ FK := by decide
def dN (n : Int) : SegDef := ⟨2, 2, 0, 0, n, 0, 0, 0⟩
def dF (n : Int) : SegDef := ⟨3, 0, 0, 0, n, 0, 0, 0⟩
theorem jnN (n : Int) (c : Comb) (h : isN c ∨ isF c) : jn NC NK (dN n) c = true ↔ isN c := by
  have e : jn NC NK (dN n) c = true ↔ ((2 : Int) ≠ 0 ∧ c.Align ≠ 0 ∧ (2 : Int) ≠ 0 ∧ c.Combine = 2 ∧ c.Name = NC ∧ c.Class = NK) := decide_eq_true_iff
  rw [e]
  constructor
  · rintro ⟨_, h2, _, h4, h5, h6⟩
    rcases h with h | h
    · exact h
    · exact absurd (h6.symm.trans h.1) NKFK
  · rintro ⟨h1, h2, h3, h4⟩
    exact ⟨by decide, by rw [h3]; decide, by decide, h4, h1, h2⟩
theorem up2 (n : Int) : up n 2 % 2 = 0 := by unfold up; omega
theorem upb (n : Int) : n ≤ up n 2 ∧ up n 2 ≤ n + 1 := by unfold up; omega
theorem count_succ (p : Ext → Bool) (x : List Ext) (k : Nat) (h : k < x.length) : (x.take (k + 1)).countP p = (x.take k).countP p + (if p x[k] then 1 else 0) := by
  rw [List.take_succ_eq_append_getElem h, List.countP_append, List.countP_singleton]
theorem made_step (x : List Ext) (k : Nat) (r : List Comb) (hk : k < x.length) (hk6 : k < 6) (hx : okE x[k]) (h : Rest x k r) :
    ∃ r', addL r (if near x[k] then NC else FC) (if near x[k] then NK else FK) (if near x[k] then dN x[k].Len else dF x[k].Len) (-1) (k : Int) = (r', 0) ∧ Rest x (k + 1) r' := by
  obtain ⟨hc, l0, l1⟩ := hx
  have hxk : x[k]? = some x[k] := List.getElem?_eq_getElem hk
  have cs := count_succ near x k hk
  have cs' := count_succ (fun e => !near e) x k hk
  -- a new one behind all
  have app : ∀ (n kk : List UInt8) (d : SegDef), 0 ≤ d.Len ∧ d.Len ≤ 255 → d.Len = x[k].Len → (isN (newc (fresh n kk d) d ⟨-1, (k : Int), 0, d.Len⟩) ∧ near x[k] = true ∨ isF (newc (fresh n kk d) d ⟨-1, (k : Int), 0, d.Len⟩) ∧ near x[k] = false) →
      ((newc (fresh n kk d) d ⟨-1, (k : Int), 0, d.Len⟩).Class = NK ↔ x[k].Com = 98) → (near x[k] = true → (x.take k).countP near = 0) → r.findIdx (jn n kk d) = r.length →
      ∃ r', addL r n kk d (-1) (k : Int) = (r', 0) ∧ Rest x (k + 1) r' := by
    intro n kk d hd hdl hkind hcl hfirst hnone
    refine ⟨r ++ [newc (fresh n kk d) d ⟨-1, (k : Int), 0, d.Len⟩], ?_, ?_⟩
    · unfold addL
      rw [hnone, List.getElem?_eq_none (Nat.le_refl _)]
      simp only [show d.Len ≤ 65536 from by omega, if_true]
    · have hlen : (newc (fresh n kk d) d ⟨-1, (k : Int), 0, d.Len⟩).Len = d.Len := by simp [newc, fresh]; omega
      have hch : (newc (fresh n kk d) d ⟨-1, (k : Int), 0, d.Len⟩).Chunks = [⟨-1, (k : Int), 0, d.Len⟩] := rfl
      constructor
      · rw [List.length_append, h.len, cs, cs']
        simp only [List.length_cons, List.length_nil]
        rcases hkind with ⟨_, hn⟩ | ⟨_, hn⟩
        · simp only [hn, hfirst hn, Bool.not_true, Bool.false_eq_true, if_false, if_true, Nat.zero_add, Nat.one_ne_zero] <;> omega
        · simp only [hn, Bool.not_false, if_true, Bool.false_eq_true, if_false, Nat.add_zero] <;> omega
      · intro c hc'
        rcases List.mem_append.1 hc' with hc' | hc'
        · exact (h.ok c hc').succ
        · simp only [List.mem_singleton] at hc'
          subst hc'
          refine ⟨?_, by rw [hlen]; omega, by rw [hch]; simp, fun y hy => ?_⟩
          · rcases hkind with ⟨h1, _⟩ | ⟨h1, _⟩
            · exact .inl h1
            · exact .inr h1
          · rw [hch] at hy
            simp only [List.mem_singleton] at hy
            subst hy
            exact ⟨rfl, rfl, by simp, by rw [hlen]; simp, k, x[k], rfl, by omega, hxk, hdl, hcl⟩
      · intro i hi
        by_cases e : i = k
        · subst e
          exact ⟨_, List.mem_append_right _ (List.mem_singleton.2 rfl), ⟨-1, (i : Int), 0, d.Len⟩, by rw [hch]; simp, rfl⟩
        · obtain ⟨c, h1, h2⟩ := h.all i (by omega)
          exact ⟨c, List.mem_append_left _ h1, h2⟩
      · rw [cs]
        rcases hkind with ⟨h1, hn⟩ | ⟨h1, hn⟩
        · simp only [hn, if_true]
          exact ⟨fun _ => by omega, fun _ => ⟨_, List.mem_append_right _ (List.mem_singleton.2 rfl), h1⟩⟩
        · simp only [hn, Bool.false_eq_true, if_false, Nat.add_zero]
          rw [← h.one]
          constructor
          · rintro ⟨c, hc', hcn⟩
            rcases List.mem_append.1 hc' with hc' | hc'
            · exact ⟨c, hc', hcn⟩
            · simp only [List.mem_singleton] at hc'
              subst hc'
              exact absurd (hcn.2.1.symm.trans h1.1) NKFK
          · rintro ⟨c, hc', hcn⟩
            exact ⟨c, List.mem_append_left _ hc', hcn⟩
  cases hn : near x[k] with
  | false =>
    have h97 : ¬ x[k].Com = 98 := by simpa [near] using hn
    simp only [Bool.false_eq_true, if_false]
    refine app FC FK (dF x[k].Len) ⟨l0, l1⟩ rfl (.inr ⟨⟨rfl, rfl⟩, hn⟩) ⟨fun h => absurd h.symm NKFK, fun h => absurd h h97⟩ (fun h => by rw [hn] at h; cases h) ?_
    rw [List.findIdx_eq_length]
    intro c _
    simp [jn, dF]
  | true =>
    have h98 : x[k].Com = 98 := by simpa [near] using hn
    simp only [if_true]
    have iff : ∀ c ∈ r, (jn NC NK (dN x[k].Len) c = true ↔ isN c) := fun c hc' => jnN _ c (h.ok c hc').1
    by_cases hz : (x.take k).countP near = 0
    · refine app NC NK (dN x[k].Len) ⟨l0, l1⟩ rfl (.inl ⟨⟨rfl, rfl, rfl, rfl⟩, hn⟩) ⟨fun _ => h98, fun _ => rfl⟩ (fun _ => hz) ?_
      rw [List.findIdx_eq_length]
      intro c hc'
      cases hj : jn NC NK (dN x[k].Len) c with
      | false => rfl
      | true => exact absurd hz (h.one.1 ⟨c, hc', (iff c hc').1 hj⟩)
    · obtain ⟨c0, hc0, hcn⟩ := h.one.2 hz
      have hf : r.findIdx (jn NC NK (dN x[k].Len)) < r.length := List.findIdx_lt_length_of_exists ⟨c0, hc0, (iff c0 hc0).2 hcn⟩
      have hjf := List.findIdx_getElem (xs := r) (p := jn NC NK (dN x[k].Len)) (w := hf)
      generalize hfe : r.findIdx (jn NC NK (dN x[k].Len)) = f at *
      have hmem : r[f] ∈ r := List.getElem_mem hf
      have hisN : isN r[f] := (iff _ hmem).1 hjf
      obtain ⟨q1, q2, q3, q4⟩ := h.ok _ hmem
      have hoff : offOf r[f] (dN x[k].Len) = up r[f].Len 2 := rfl
      have hub := upb r[f].Len
      have hu2 := up2 r[f].Len
      have hk300 : (300 * k : Int) ≤ 1800 := by omega
      have hfit : offOf r[f] (dN x[k].Len) + (dN x[k].Len).Len ≤ 65536 := by
        rw [hoff]; show up r[f].Len 2 + x[k].Len ≤ 65536; omega
      generalize hv : newc r[f] (dN x[k].Len) ⟨-1, (k : Int), offOf r[f] (dN x[k].Len), (dN x[k].Len).Len⟩ = v
      have vlen : v.Len = max r[f].Len (up r[f].Len 2 + x[k].Len) := by rw [← hv]; rfl
      have vch : v.Chunks = r[f].Chunks ++ [⟨-1, (k : Int), up r[f].Len 2, x[k].Len⟩] := by rw [← hv]; rfl
      have vN : isN v := by
        rw [← hv]
        refine ⟨hisN.1, hisN.2.1, ?_, hisN.2.2.2⟩
        show (if stepOf 2 > stepOf r[f].Align then (2 : Int) else r[f].Align) = 2
        rw [hisN.2.2.1]; rfl
      have vcl : v.Class = r[f].Class := by rw [← hv]; rfl
      refine ⟨r.set f v, ?_, ?_⟩
      · unfold addL
        rw [hfe, List.getElem?_eq_getElem hf]
        simp only [hfit, if_true, hv]
      · constructor
        · rw [List.length_set, h.len, cs, cs']
          simp only [hn, if_true, Bool.not_true, Bool.false_eq_true, if_false, Nat.add_zero]
          rw [if_neg hz, if_neg (by omega)]
        · intro c hc'
          rcases List.mem_or_eq_of_mem_set hc' with h1 | rfl
          · exact (h.ok c h1).succ
          · refine ⟨.inl vN, by rw [vlen]; omega, by rw [vch]; simp; omega, fun y hy => ?_⟩
            rw [vch] at hy
            rcases List.mem_append.1 hy with hy | hy
            · obtain ⟨a1, a2, a3, a4, i, e, a5, a6, a7, a8, a9⟩ := q4 y hy
              exact ⟨a1, a2, a3, by rw [vlen]; omega, i, e, a5, by omega, a7, a8, by rw [vcl]; exact a9⟩
            · simp only [List.mem_singleton] at hy
              subst hy
              exact ⟨rfl, hu2, by simp only; omega, by rw [vlen]; simp only; omega, k, x[k], rfl, by omega, hxk, rfl, fun _ => h98, fun _ => vN.2.1⟩
        · intro i hi
          have hvm : v ∈ r.set f v := List.mem_set hf v
          by_cases e : i = k
          · subst e
            exact ⟨v, hvm, ⟨-1, (i : Int), up r[f].Len 2, x[i].Len⟩, by rw [vch]; simp, rfl⟩
          · obtain ⟨c, h1, y, h2, h3⟩ := h.all i (by omega)
            obtain ⟨j, hj, hcj⟩ := List.mem_iff_getElem.1 h1
            by_cases ej : f = j
            · subst ej
              exact ⟨v, hvm, y, by rw [vch]; exact List.mem_append_left _ (by rw [hcj]; exact h2), h3⟩
            · refine ⟨c, ?_, y, h2, h3⟩
              have : (r.set f v)[j]'(by rw [List.length_set]; exact hj) = c := by rw [List.getElem_set_ne ej, hcj]
              rw [← this]; exact List.getElem_mem _
        · rw [cs]
          simp only [hn, if_true]
          exact ⟨fun _ => by omega, fun _ => ⟨v, List.mem_set hf v, vN⟩⟩
theorem base_apart (n : Nat) (hn : n ≤ 3) : ∀ c ∈ base n, (c.Class ≠ NK ∧ c.Class ≠ FK) ∧ ∀ y ∈ c.Chunks, y.Mod ≠ -1 := by
  have : n = 0 ∨ n = 1 ∨ n = 2 ∨ n = 3 := by omega
  rcases this with rfl | rfl | rfl | rfl <;> decide
theorem made_spec (n : Nat) (hn : n ≤ 3) (x : List Ext) (hx : ∀ e ∈ x, okE e) (hl : x.length ≤ 6) :
    ∃ r, Rest x x.length r ∧ loopO (fun s : List Comb × Int => comb_made_l6 s.1 x (x.length : Int) s.2) (base n, 0) = some (.inr (base n ++ r)) := by
  obtain ⟨b, h1, h2⟩ := loop_rule (f := fun s : List Comb × Int => comb_made_l6 s.1 x (x.length : Int) s.2) (fun s => ∃ k r, s = (base n ++ r, ((k : Nat) : Int)) ∧ k ≤ x.length ∧ Rest x k r) (fun s => (x.length - s.2).toNat)
    (fun b => ∃ r, b = .inr (base n ++ r) ∧ Rest x x.length r) (fun s hs => by
      obtain ⟨k, r, rfl, hk, hr⟩ := hs
      simp only
      unfold comb_made_l6
      by_cases hlt : k < x.length
      · left
        obtain ⟨r', a1, a2⟩ := made_step x k r hlt (by omega) (hx _ (List.getElem_mem hlt)) hr
        obtain ⟨b1, b2⟩ := okb n hn
        have hrl : r.length ≤ 7 := by
          have h1 := List.countP_le_length (p := fun e => !near e) (l := x.take k)
          have h2 := hr.len
          rw [List.length_take] at h1
          split at h2 <;> omega
        have hok : ∀ c ∈ base n ++ r, okc c := fun c hc => by
          rcases List.mem_append.1 hc with hc | hc
          · exact b2 c hc
          · obtain ⟨_, q2, q3, _⟩ := hr.ok c hc
            exact ⟨⟨q2.1, by omega⟩, by omega⟩
        obtain ⟨e1, e2, e3⟩ := hx _ (List.getElem_mem hlt)
        have w : IntKind.wrap .i64 x[k].Len = x[k].Len := wrap64 (by omega) (by omega)
        have go : ∀ (nn kk : List UInt8) (d : SegDef), 0 ≤ d.Len ∧ d.Len ≤ 255 → (∀ c ∈ base n, jn nn kk d c = false) → addL r nn kk d (-1) (k : Int) = (r', 0) →
            comb_made_j29 d (base n ++ r) (k : Int) nn kk x (x.length : Int) (k : Int) = some (.next (base n ++ r', ((k + 1 : Nat) : Int))) := by
          intro nn kk d hd hb ha
          unfold comb_made_j29
          simp only [show ¬ d.Len > 65536 from by omega, decide_false, Bool.false_eq_true, if_false]
          rw [add_spec _ nn kk d (-1) (k : Int) (by simp; omega) hok ⟨hd.1, by omega⟩, addL_append _ _ _ _ _ _ _ hb (by rw [ha]), ha, Option.bind_some, wrap64 (by omega) (by omega)]
          rfl
        simp only [show (k : Int) < (x.length : Int) from by omega, decide_true, if_true, idx_nat hlt, Option.bind_some, w]
        refine ⟨(base n ++ r', ((k + 1 : Nat) : Int)), ?_, ⟨k + 1, r', rfl, by omega, a2⟩, by simp only; omega⟩
        rcases e1 with e1 | e1
        · have hnr : near x[k] = false := by simp [near, e1]
          rw [hnr] at a1
          simp only [Bool.false_eq_true, if_false] at a1
          simp only [e1, beq_self_eq_true, if_true]
          exact go FC FK (dF x[k].Len) ⟨e2, e3⟩ (fun c _ => by simp [jn, dF]) a1
        · have hnr : near x[k] = true := by simp [near, e1]
          rw [hnr] at a1
          simp only [if_true] at a1
          simp only [e1, show ((98 : Int) == 97) = false from rfl, Bool.false_eq_true, if_false]
          exact go NC NK (dN x[k].Len) ⟨e2, e3⟩ (fun c hc => by
            have := ((base_apart n hn) c hc).1.1
            simp [jn, this]) a1
      · right
        have : k = x.length := by omega
        subst this
        exact ⟨.inr (base n ++ r), by simp, r, rfl, hr⟩) (x := (base n, 0)) ⟨0, [], by simp, by omega, ⟨by simp, by simp, by simp, by simp⟩⟩
  obtain ⟨r, rfl, hr⟩ := h2
  exact ⟨r, hr, h1⟩
theorem all_spec (n : Nat) (hn : n ≤ 3) (x : List Ext) (hx : ∀ e ∈ x, okE e) (hl : x.length ≤ 6) : ∃ r, Rest x x.length r ∧ comb_All (mods n) x = some (base n ++ r, 0) := by
  obtain ⟨r, hr, h1⟩ := made_spec n hn x hx hl
  refine ⟨r, hr, ?_⟩
  unfold comb_All
  rw [all_mods x n hn, Option.bind_some]
  simp only
  unfold comb_made
  rw [h1, Option.bind_some]
  rfl
theorem find_any (m s : Int) (l : List Comb) (hl : l.length ≤ 2000) (hc : ∀ c ∈ l, c.Chunks.length ≤ 2000) (hx : ∃ c ∈ l, ∃ y ∈ c.Chunks, hits m s y = true) :
    ∃ (k : Nat) (hk : k < l.length) (y : Chunk), y ∈ l[k].Chunks ∧ hits m s y = true ∧ comb_Find l m s = some ((k : Int), y.Off, true) := by
  unfold comb_Find
  rw [find_loop m s l hl hc, Option.bind_some]
  cases hF : (l.zipIdx).findSome? (fun p => (p.1.Chunks.find? (hits m s)).map fun x => ((p.2 : Int), x.Off, true)) with
  | none =>
    exfalso
    rw [List.findSome?_eq_none_iff] at hF
    obtain ⟨c, h1, y, h2, h3⟩ := hx
    obtain ⟨j, hj, rfl⟩ := List.mem_iff_getElem.1 h1
    have := hF (l[j], j) (by rw [List.mem_zipIdx_iff_getElem?]; exact List.getElem?_eq_getElem hj)
    simp only [Option.map_eq_none_iff, List.find?_eq_none] at this
    exact this y h2 h3
  | some q =>
    obtain ⟨⟨c, j⟩, h1, h2⟩ := List.exists_of_findSome?_eq_some hF
    rw [List.mem_zipIdx_iff_getElem?] at h1
    simp only at h1 h2
    obtain ⟨hj, rfl⟩ := List.getElem?_eq_some_iff.1 h1
    rw [Option.map_eq_some_iff] at h2
    obtain ⟨y, h3, rfl⟩ := h2
    exact ⟨j, hj, y, List.mem_of_find?_eq_some h3, List.find?_some h3, rfl⟩
/-! ### the statement -/
def mkE (e : Ext) : Ext := ⟨[69], 97 + e.Com % 2, e.Len % 256⟩
theorem mkE_ok (e : Ext) : okE (mkE e) := by
  unfold mkE okE
  simp only
  omega
theorem and255 {z : Int} (h0 : 0 ≤ z) (h1 : z ≤ 4294967295) : bitsOp .and .u32 z 255 = z % 256 := by
  have e : bitsOp .and .u32 z 255 = IntKind.wrap .u32 (((BitVec.ofInt 32 z &&& BitVec.ofInt 32 255).toNat : Nat) : Int) := rfl
  have e1 : (BitVec.ofInt 32 255).toNat = 2 ^ 8 - 1 := rfl
  have e2 : (BitVec.ofInt 32 z).toNat = z.toNat := by rw [BitVec.toNat_ofInt]; omega
  have hw : ∀ n : Int, IntKind.wrap .u32 n = n % 4294967296 := fun n => by simp [IntKind.wrap, IntKind.bits, IntKind.signed]
  rw [e, BitVec.toNat_and, e1, e2, Nat.and_two_pow_sub_one_eq_mod, hw]
  omega
def xsOf (l : List Ext) (i : Nat) : List Ext := (l.take i).map mkE
theorem exts_spec (ms : List Module) (l : List Ext) (many : Int) (hw : ∀ e ∈ l, Ext.wf e) :
    loopO (fun x : List Ext × Int × Int × Int => hansomlaw40_CombAll_l27 ms x.1 l many x.2.1 x.2.2.1 x.2.2.2) ([], 0, 0, 0) =
      some (xsOf l 6, (((xsOf l 6).countP near : Nat) : Int), (((xsOf l 6).countP (fun e => !near e) : Nat) : Int)) := by
  refine loop_to (f := fun x : List Ext × Int × Int × Int => hansomlaw40_CombAll_l27 ms x.1 l many x.2.1 x.2.2.1 x.2.2.2) (fun _ => (xsOf l 6, (((xsOf l 6).countP near : Nat) : Int), (((xsOf l 6).countP (fun e => !near e) : Nat) : Int)))
    (fun x => ∃ i : Nat, x = (xsOf l i, (((xsOf l i).countP near : Nat) : Int), (((xsOf l i).countP (fun e => !near e) : Nat) : Int), (i : Int)) ∧ i ≤ l.length ∧ i ≤ 6) (fun x => (6 - x.2.2.2).toNat) (fun x hx => ?_) ⟨0, rfl, by omega, by omega⟩
  obtain ⟨i, rfl, hi, h6⟩ := hx
  simp only
  unfold hansomlaw40_CombAll_l27
  by_cases hlt : i < l.length
  · by_cases hlt6 : i < 6
    · left
      have hs : xsOf l (i + 1) = xsOf l i ++ [mkE l[i]] := by
        unfold xsOf
        rw [List.take_succ_eq_append_getElem hlt, List.map_append]; rfl
      have hln : (xsOf l i).length ≤ 6 := by unfold xsOf; simp; omega
      have c1 := List.countP_le_length (p := near) (l := xsOf l i)
      have c2 := List.countP_le_length (p := fun e => !near e) (l := xsOf l i)
      have a1 : bitsOp .and .i64 l[i].Com 1 = l[i].Com % 2 := and_mask _ 1 (by omega)
      have hl := (hw _ (List.getElem_mem hlt)).2.2
      have hl := wfI_u32.1 hl
      have w1 : IntKind.wrap .i64 (97 + l[i].Com % 2) = 97 + l[i].Com % 2 := wrap64 (by omega) (by omega)
      have hme : (⟨[69], 97 + l[i].Com % 2, l[i].Len % 256⟩ : Ext) = mkE l[i] := rfl
      simp only [show (i : Int) < (l.length : Int) from by omega, show (i : Int) < 6 from by omega, decide_true, if_true, idx_nat hlt, Option.bind_some, a1, w1, and255 hl.1 hl.2, hme]
      rw [grow_eq (by simp; omega) (by simp; omega)]
      refine ⟨_, ?_, ⟨i + 1, rfl, by omega, by omega⟩, by simp only; omega, by trivial⟩
      rw [hs, List.countP_append, List.countP_append, List.countP_singleton, List.countP_singleton]
      have hnear : near (mkE l[i]) = (97 + l[i].Com % 2 == 98) := rfl
      cases hn : (97 + l[i].Com % 2 == 98) with
      | true =>
        rw [hn] at hnear
        simp only [hnear, if_true, Option.bind_some, Bool.not_true, Bool.false_eq_true, if_false, Nat.add_zero]
        rw [wrap64 (by omega) (by omega), wrap64 (by omega) (by omega)]; rfl
      | false =>
        rw [hn] at hnear
        simp only [hnear, if_true, Option.bind_some, Bool.not_false, Bool.false_eq_true, if_false, Nat.add_zero]
        rw [wrap64 (by omega) (by omega), wrap64 (by omega) (by omega)]; rfl
    · right
      have : i = 6 := by omega
      subst this
      simp only [show ((6 : Nat) : Int) < (l.length : Int) from by omega, decide_true, if_true]
      rfl
  · right
    have : xsOf l i = xsOf l 6 := by unfold xsOf; rw [List.take_of_length_le (by omega), List.take_of_length_le (by omega)]
    simp only [show ¬ (i : Int) < (l.length : Int) from by omega, decide_false, Bool.false_eq_true, if_false, this]
def sumTo : Nat → Int
  | 0 => 0
  | i + 1 => sumTo i + (5 + (i : Int))
theorem base_find (n i : Nat) (hn : n ≤ 3) (hi : i < n) (r : List Comb) (hl : (base n ++ r).length ≤ 2000) (hc : ∀ c ∈ base n ++ r, c.Chunks.length ≤ 2000) :
    comb_Find (base n ++ r) (i : Int) 1 = some (0, sumTo i, true) ∧ comb_Find (base n ++ r) (i : Int) 2 = some (((i + 1 : Nat) : Int), 0, true) ∧ ∃ c, idx (base n ++ r) ((i + 1 : Nat) : Int) = some c ∧ c.Name = [75] ∧ c.Class = [] := by
  have nob : ∀ (l : List Comb) (k : Nat) (m s : Int), ((List.range k).all fun j => match l[j]? with | some c => c.Chunks.all fun y => !hits m s y | none => true) = true → ∀ j, (hj : j < k) → (hjl : j < l.length) → ∀ y ∈ l[j].Chunks, hits m s y = false := by
    intro l k m s h j hj hjl y hy
    rw [List.all_eq_true] at h
    have := h j (List.mem_range.2 hj)
    rw [List.getElem?_eq_getElem hjl] at this
    simp only [List.all_eq_true] at this
    simpa using this y hy
  have hcase : (n = 1 ∧ i = 0) ∨ (n = 2 ∧ i = 0) ∨ (n = 2 ∧ i = 1) ∨ (n = 3 ∧ i = 0) ∨ (n = 3 ∧ i = 1) ∨ (n = 3 ∧ i = 2) := by omega
  rcases hcase with ⟨rfl, rfl⟩ | ⟨rfl, rfl⟩ | ⟨rfl, rfl⟩ | ⟨rfl, rfl⟩ | ⟨rfl, rfl⟩ | ⟨rfl, rfl⟩
  · exact ⟨find_some _ _ _ hl hc 0 (Nat.zero_lt_succ _) ⟨0, 1, 0, 5⟩ rfl (fun j hj => absurd hj (by omega)), find_some _ _ _ hl hc 1 (Nat.succ_lt_succ (Nat.zero_lt_succ _)) ⟨0, 2, 0, 9⟩ rfl (fun j hj y hy => nob _ 1 _ _ rfl j hj _ y hy), _, rfl, rfl, rfl⟩
  · exact ⟨find_some _ _ _ hl hc 0 (Nat.zero_lt_succ _) ⟨0, 1, 0, 5⟩ rfl (fun j hj => absurd hj (by omega)), find_some _ _ _ hl hc 1 (Nat.succ_lt_succ (Nat.zero_lt_succ _)) ⟨0, 2, 0, 9⟩ rfl (fun j hj y hy => nob _ 1 _ _ rfl j hj _ y hy), _, rfl, rfl, rfl⟩
  · exact ⟨find_some _ _ _ hl hc 0 (Nat.zero_lt_succ _) ⟨1, 1, 5, 6⟩ rfl (fun j hj => absurd hj (by omega)), find_some _ _ _ hl hc 2 (Nat.succ_lt_succ (Nat.succ_lt_succ (Nat.zero_lt_succ _))) ⟨1, 2, 0, 9⟩ rfl (fun j hj y hy => nob _ 2 _ _ rfl j hj _ y hy), _, rfl, rfl, rfl⟩
  · exact ⟨find_some _ _ _ hl hc 0 (Nat.zero_lt_succ _) ⟨0, 1, 0, 5⟩ rfl (fun j hj => absurd hj (by omega)), find_some _ _ _ hl hc 1 (Nat.succ_lt_succ (Nat.zero_lt_succ _)) ⟨0, 2, 0, 9⟩ rfl (fun j hj y hy => nob _ 1 _ _ rfl j hj _ y hy), _, rfl, rfl, rfl⟩
  · exact ⟨find_some _ _ _ hl hc 0 (Nat.zero_lt_succ _) ⟨1, 1, 5, 6⟩ rfl (fun j hj => absurd hj (by omega)), find_some _ _ _ hl hc 2 (Nat.succ_lt_succ (Nat.succ_lt_succ (Nat.zero_lt_succ _))) ⟨1, 2, 0, 9⟩ rfl (fun j hj y hy => nob _ 2 _ _ rfl j hj _ y hy), _, rfl, rfl, rfl⟩
  · exact ⟨find_some _ _ _ hl hc 0 (Nat.zero_lt_succ _) ⟨2, 1, 11, 7⟩ rfl (fun j hj => absurd hj (by omega)), find_some _ _ _ hl hc 3 (Nat.succ_lt_succ (Nat.succ_lt_succ (Nat.succ_lt_succ (Nat.zero_lt_succ _)))) ⟨2, 2, 0, 9⟩ rfl (fun j hj y hy => nob _ 3 _ _ rfl j hj _ y hy), _, rfl, rfl, rfl⟩
theorem base_len (n : Nat) (hn : n ≤ 3) : (base n).length = if n = 0 then 0 else n + 1 := by
  have : n = 0 ∨ n = 1 ∨ n = 2 ∨ n = 3 := by omega
  rcases this with rfl | rfl | rfl | rfl <;> rfl
theorem loop76 (n : Nat) (hn : n ≤ 3) (xs : List Ext) (many : Int) (r : List Comb) (hl : (base n ++ r).length ≤ 2000) (hc : ∀ c ∈ base n ++ r, c.Chunks.length ≤ 2000) :
    loopO (fun x : Int × Int => hansomlaw40_CombAll_l76 (mods n) xs many (base n ++ r) x.1 x.2) (0, 0) = some (.inr ()) := by
  have hlen : (mods n).length = n := by simp [mods]
  refine loop_to (f := fun x : Int × Int => hansomlaw40_CombAll_l76 (mods n) xs many (base n ++ r) x.1 x.2) (fun _ => (.inr () : Bool ⊕ Unit)) (fun x => ∃ i : Nat, x = (sumTo i, (i : Int)) ∧ i ≤ n) (fun x => (n - x.2).toNat) (fun x hx => ?_) ⟨0, rfl, by omega⟩
  obtain ⟨i, rfl, hi⟩ := hx
  simp only
  unfold hansomlaw40_CombAll_l76
  rw [hlen]
  by_cases hlt : i < n
  · left
    obtain ⟨f1, f2, c, f3, f4, f5⟩ := base_find n i hn hlt r hl hc
    have hs : 0 ≤ sumTo i ∧ sumTo i ≤ 1000 := by
      have : i = 0 ∨ i = 1 ∨ i = 2 := by omega
      rcases this with rfl | rfl | rfl <;> decide
    simp only [show (i : Int) < (n : Int) from by omega, decide_true, if_true, f1, f2, f3, f4, f5, Option.bind_some, Bool.not_true, Bool.false_eq_true, if_false, bne_self_eq_false]
    refine ⟨_, rfl, ⟨i + 1, ?_, by omega⟩, ?_, by trivial⟩
    · rw [wrap64 (n := 5 + (i : Int)) (by omega) (by omega), wrap64 (by omega) (by omega), wrap64 (by omega) (by omega)]; rfl
    · simp only; rw [wrap64 (n := (i : Int) + 1) (by omega) (by omega)]; omega
  · right
    have : i = n := by omega
    subst this
    simp
theorem loop103 (n : Nat) (hn : n ≤ 3) (xs : List Ext) (many : Int) (r : List Comb) (hx : ∀ e ∈ xs, okE e) (h6 : xs.length ≤ 6) (hr : Rest xs xs.length r) (hl : (base n ++ r).length ≤ 2000) (hc : ∀ c ∈ base n ++ r, c.Chunks.length ≤ 2000) :
    loopO (fun x : Int => hansomlaw40_CombAll_l103 xs many (base n ++ r) x) 0 = some (.inr ()) := by
  refine loop_to (f := fun x : Int => hansomlaw40_CombAll_l103 xs many (base n ++ r) x) (fun _ => (.inr () : Bool ⊕ Unit)) (fun x => ∃ i : Nat, x = (i : Int) ∧ i ≤ xs.length) (fun x => (xs.length - x).toNat) (fun x hx' => ?_) (x := (0 : Int)) ⟨0, rfl, by omega⟩
  obtain ⟨i, rfl, hi⟩ := hx'
  simp only
  unfold hansomlaw40_CombAll_l103
  by_cases hlt : i < xs.length
  · left
    obtain ⟨c0, m0, y0, m1, s0⟩ := hr.all i hlt
    have hy0 := (hr.ok c0 m0).2.2.2 y0 m1
    obtain ⟨k, hk, y, hy, hh, hf⟩ := find_any (-1) (i : Int) (base n ++ r) hl hc ⟨c0, List.mem_append_right _ m0, y0, m1, by simp [hits, hy0.1, s0]⟩
    have hmem : (base n ++ r)[k] ∈ base n ++ r := List.getElem_mem hk
    simp only [hits, Bool.and_eq_true, beq_iff_eq] at hh
    have hmr : (base n ++ r)[k] ∈ r := by
      rcases List.mem_append.1 hmem with h | h
      · exact absurd hh.1 (((base_apart n hn) _ h).2 y hy)
      · exact h
    obtain ⟨q1, q2, q3, q4⟩ := hr.ok _ hmr
    obtain ⟨_, a2, a3, a4, i', e, a5, a6, a7, a8, a9⟩ := q4 y hy
    have hii : i' = i := by have := hh.2; omega
    subst hii
    have hxe : xs[i'] = e := by
      rw [List.getElem?_eq_getElem hlt] at a7; exact Option.some.inj a7
    obtain ⟨_, l0, l1⟩ := hx _ (List.getElem_mem hlt)
    rw [hxe] at l0 l1
    have hmod : Int.tmod y.Off 2 = 0 := by rw [Int.tmod_eq_emod_of_nonneg a3]; exact a2
    have hwl : IntKind.wrap .i64 (y.Off + IntKind.wrap .i64 e.Len) = y.Off + e.Len := by
      rw [wrap64 (n := e.Len) (by omega) (by omega), wrap64 (by omega) (by omega)]
    have hidx : idx (base n ++ r) (k : Int) = some (base n ++ r)[k] := idx_nat hk
    generalize (base n ++ r)[k] = c at *
    have e1 : (c.Class == [66, 83, 83]) = (e.Com == 98) := by
      rw [Bool.eq_iff_iff]; simp only [beq_iff_eq]; exact a9
    have hcls : ((c.Class == [66, 83, 83]) != (e.Com == 98)) = false := by rw [e1]; simp
    simp only [show (i' : Int) < (xs.length : Int) from by omega, decide_true, if_true, hf, Option.bind_some, Bool.not_true, Bool.false_eq_true, if_false, hmod, bne_self_eq_false, hidx, idx_nat hlt, hxe, hcls, hwl, show ¬ c.Len < y.Off + e.Len from by omega, decide_false]
    refine ⟨((i' + 1 : Nat) : Int), ?_, ⟨i' + 1, rfl, by omega⟩, by omega, by trivial⟩
    rw [wrap64 (by omega) (by omega)]; rfl
  · right
    have : i = xs.length := by omega
    subst this
    simp
theorem all_far (q : Int) (h0 : 0 ≤ q) (h1 : q ≤ 7) : ∃ m e, comb_All [] [⟨[], 97, 65536 + q⟩] = some (m, e) ∧ ((e == 0) = (q == 0)) ∧ (e = 0 ∨ e = 8) := by
  have w : IntKind.wrap .i64 (65536 + q) = 65536 + q := wrap64 (by omega) (by omega)
  unfold comb_All
  rw [loopO_eq]
  simp only [comb_All_l8, List.length_nil, Int.natCast_zero, Int.lt_irrefl, decide_false, Bool.false_eq_true, if_false, Option.bind_some]
  unfold comb_made
  have hidx : idx [(⟨[], 97, 65536 + q⟩ : Ext)] 0 = some ⟨[], 97, 65536 + q⟩ := rfl
  have hlen : (([(⟨[], 97, 65536 + q⟩ : Ext)].length : Nat) : Int) = 1 := rfl
  rw [loopO_eq]
  simp only [comb_made_l6, hlen, show decide ((0 : Int) < 1) = true from rfl, if_true, hidx, Option.bind_some, beq_self_eq_true, w]
  unfold comb_made_j29
  by_cases hq : q = 0
  · subst hq
    simp only [Int.add_zero, show ¬ (65536 : Int) > 65536 from by omega, decide_false, Bool.false_eq_true, if_false]
    rw [add_spec [] _ _ ⟨3, 0, 0, 0, 65536, 0, 0, 0⟩ (-1) 0 (by simp) (by simp) (by simp)]
    have ha : addL [] [70, 65, 82, 95, 67, 79, 77, 77, 79, 78] [70, 65, 82, 95, 66, 83, 83] ⟨3, 0, 0, 0, 65536, 0, 0, 0⟩ (-1) 0 = ([newc (fresh [70, 65, 82, 95, 67, 79, 77, 77, 79, 78] [70, 65, 82, 95, 66, 83, 83] ⟨3, 0, 0, 0, 65536, 0, 0, 0⟩) ⟨3, 0, 0, 0, 65536, 0, 0, 0⟩ ⟨-1, 0, 0, 65536⟩], 0) := rfl
    have w1 : IntKind.wrap .i64 (0 + 1) = 1 := rfl
    simp only [ha, Option.bind_some, bne_self_eq_false, Bool.false_eq_true, if_false, w1]
    rw [loopO_eq]
    simp only [show decide ((1 : Int) < 1) = false from rfl, Bool.false_eq_true, if_false, Option.bind_some]
    exact ⟨_, _, rfl, rfl, .inl rfl⟩
  · have : 65536 + q > 65536 := by omega
    simp only [this, decide_true, if_true, Option.bind_some]
    exact ⟨_, _, rfl, by simp [hq], .inr rfl⟩
theorem j62_ok (n : Nat) (hn : n ≤ 3) (xs : List Ext) (many : Int) (r : List Comb) (hx : ∀ e ∈ xs, okE e) (h6 : xs.length ≤ 6) (hr : Rest xs xs.length r) (want : Int) (hw : want = ((base n ++ r).length : Int)) :
    hansomlaw40_CombAll_j62 (mods n) xs many (base n ++ r) 0 want = some true := by
  subst hw
  obtain ⟨b1, b2⟩ := okb n hn
  have hrl : r.length ≤ 7 := by
    have h1 := List.countP_le_length (p := fun e => !near e) (l := xs.take xs.length)
    have h2 := hr.len
    rw [List.length_take] at h1
    split at h2 <;> omega
  have hl : (base n ++ r).length ≤ 2000 := by rw [List.length_append]; omega
  have hc : ∀ c ∈ base n ++ r, c.Chunks.length ≤ 2000 := fun c hc => by
    rcases List.mem_append.1 hc with hc | hc
    · have := (b2 c hc).2; omega
    · have := (hr.ok c hc).2.2.1; omega
  have a7 : bitsOp .and .i64 many 7 = many % 8 := and_mask many 3 (by omega)
  obtain ⟨m, e, f1, f2, f3⟩ := all_far (many % 8) (by omega) (by omega)
  have w1 : IntKind.wrap .i64 (65536 + many % 8) = 65536 + many % 8 := wrap64 (by omega) (by omega)
  have w2 : IntKind.wrap .u32 (65536 + many % 8) = 65536 + many % 8 := by
    have hw : ∀ n : Int, IntKind.wrap .u32 n = n % 4294967296 := fun n => by simp [IntKind.wrap, IntKind.bits, IntKind.signed]
    rw [hw]; omega
  unfold hansomlaw40_CombAll_j62
  simp only [bne_self_eq_false, Bool.false_eq_true, if_false, loop76 n hn xs many r hl hc, loop103 n hn xs many r hx h6 hr hl hc, Option.bind_some, a7, w1, w2, f1, awake_true, if_true, f2, beq_self_eq_true]
  split
  · rfl
  · rename_i h
    rcases f3 with rfl | rfl
    · rw [← f2] at h; exact absurd rfl h
    · rfl
theorem j56_ok (n : Nat) (hn : n ≤ 3) (xs : List Ext) (many : Int) (r : List Comb) (hx : ∀ e ∈ xs, okE e) (h6 : xs.length ≤ 6) (hr : Rest xs xs.length r) (want : Int) (hw : want = (r.length : Int)) :
    hansomlaw40_CombAll_j56 (mods n) xs many (base n ++ r) 0 want = some true := by
  subst hw
  have hlen : (mods n).length = n := by simp [mods]
  have hrl : r.length ≤ 7 := by
    have h1 := List.countP_le_length (p := fun e => !near e) (l := xs.take xs.length)
    have h2 := hr.len
    rw [List.length_take] at h1
    split at h2 <;> omega
  have hb := base_len n hn
  unfold hansomlaw40_CombAll_j56
  rw [hlen]
  by_cases h0 : n = 0
  · rw [if_pos h0] at hb
    simp only [show ¬ (n : Int) > 0 from by omega, decide_false, Bool.false_eq_true, if_false]
    exact j62_ok n hn xs many r hx h6 hr _ (by rw [List.length_append]; omega)
  · rw [if_neg h0] at hb
    simp only [show (n : Int) > 0 from by omega, decide_true, if_true]
    exact j62_ok n hn xs many r hx h6 hr _ (by rw [wrap64 (n := 1 + (n : Int)) (by omega) (by omega), wrap64 (by omega) (by omega), List.length_append]; omega)
theorem combAll_true (l : List Ext) (many : Int) (wl : wfL Ext.wf l) (wm : wfI .i64 many) : hansomlaw40_CombAll l many = some true := by
  have a3 : bitsOp .and .i64 many 3 = (((many % 4).toNat : Nat) : Int) := by
    have : bitsOp .and .i64 many 3 = many % 4 := and_mask many 2 (by omega)
    rw [this]; omega
  have hn : (many % 4).toNat ≤ 3 := by omega
  generalize (many % 4).toNat = n at a3 hn
  unfold hansomlaw40_CombAll
  rw [mods_spec l many n hn a3, Option.bind_some, exts_spec (mods n) l many wl.2, Option.bind_some]
  have hx : ∀ e ∈ xsOf l 6, okE e := by
    intro e he
    obtain ⟨q, _, rfl⟩ := List.mem_map.1 he
    exact mkE_ok q
  have h6 : (xsOf l 6).length ≤ 6 := by unfold xsOf; simp; omega
  generalize xsOf l 6 = xs at hx h6
  obtain ⟨r, hr, hall⟩ := all_spec n hn xs hx h6
  simp only [hall, Option.bind_some]
  have hrl := hr.len
  rw [List.take_length] at hrl
  have c1 := List.countP_le_length (p := near) (l := xs)
  have c2 := List.countP_le_length (p := fun e => !near e) (l := xs)
  by_cases h0 : xs.countP near = 0
  · rw [if_pos h0] at hrl
    simp only [show ¬ ((xs.countP near : Nat) : Int) > 0 from by omega, decide_false, Bool.false_eq_true, if_false]
    exact j56_ok n hn xs many r hx h6 hr _ (by omega)
  · rw [if_neg h0] at hrl
    simp only [show ((xs.countP near : Nat) : Int) > 0 from by omega, decide_true, if_true]
    exact j56_ok n hn xs many r hx h6 hr _ (by rw [wrap64 (by omega) (by omega)]; omega)
end Go.Es.Cmb
