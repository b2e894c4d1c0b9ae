/- CxB: part of an evaluator of the program's code, memory and all, whose answers are the machine's. No condition. -/
import Derived.Test.YteikhdaaofiefaaGreatCxA
set_option linter.unusedSimpArgs false
set_option linter.unusedVariables false
namespace Go.Cx
variable {E : Ms} {β : Be} {w w0 : World} {m m' : Mem} {P : Program} {O : Nat → Prop} {C : Cx}

/-! ### what slices and strings give -/
structure Gv (E : Ms) (β : Be) (P : Program) (w : World) (sz n : Nat) (l : List V) (a : Value) : Prop where
  len : ∀ w1, (Builtin.lenOf a).run P w1 = .ok n w1
  ll : l.length = n * sz
  fl : l.all V.flat = true
  cells : ∀ k, k ≤ n → ∃ new : Array Value, (∀ w1 : World, w1.heap = w.heap → (Builtin.firstCells sz k a).run P w1 = .ok new w1) ∧ Rl E β (l.take (k * sz)) new.toList ∧ ∀ u ∈ new.toList, cellVal u = true

theorem Rl.take {l : List V} {vs : List Value} (h : Rl E β l vs) (n : Nat) : Rl E β (l.take n) (vs.take n) :=
  ⟨by simp [h.1], fun j hj => by simp only [List.getElem_take]; exact h.2 _ _⟩

theorem cells_of_slice (h : Inv E w0 O β m w) {b o len sz : Nat} {c : Option Nat} {l : List V} {a : Value} (hs : cellsOf m (.sl b o len sz c) = some l) (ha : R E β (.sl b o len sz c) a) :
    l.length = len * sz ∧ l.all V.flat = true ∧ ∃ ad cap, a = .slice (some ad) len cap ∧ ∃ us : Nat → Value, (∀ j (hj : j < l.length), R E β l[j] (us j)) ∧
      ∀ k, k ≤ len * sz → ∀ w1 : World, w1.heap = w.heap → (loadCells ad k).run P w1 = .ok ((List.range k).map us).toArray w1 := by
  simp only [cellsOf] at hs
  · split at hs
    · rename_i cc n hat
      split at hs
      · rename_i hle
        have hle : o + len * sz ≤ n := by simpa using hle
        split at hs
        · rename_i hfl
          cases hs
          cases ha with | sl _ _ _ _ _ rc ad p hb hlen hc had hn =>
          have hbx := h.box b p hb
          rw [hat] at hbx
          cases hbx with | live _ _ vals ty fr hh hsz hbare hfit hr =>
          refine ⟨cgets_len _ _ _, hfl, _, _, rfl, fun j => vals.getD (p.base + (o + j)) undef, fun j hj => ?_, fun k hk w1 hw => ?_⟩
          · rw [cgets_len] at hj
            rw [cgets_get]; exact hr _ (by omega)
          · by_cases h0 : k = 0
            · subst h0; simp [loadCells, loadCellsFrom]
            · have had : ad = p.base + o := by
                rcases had with h1 | h1
                · subst h1
                  obtain rfl : len = 0 := by omega
                  simp at hk; omega
                · exact h1
              subst had
              refine loadCells_run P _ _ _ _ _ fun j hj => ?_
              have : w1.cell? ⟨p.a, p.base + o + j, none⟩ = w.cell? ⟨p.a, p.base + o + j, none⟩ := by simp only [World.cell?, hw]
              rw [this, Nat.add_assoc]
              exact live_cell hh (by omega)
        · cases hs
      · cases hs
    · cases hs

theorem given_run (h : Inv E w0 O β m w) {sz n : Nat} {l : List V} {x : V} {a : Value} (hs : given m sz x = some (n, l)) (ha : R E β x a) : Gv E β P w sz n l a := by
  unfold given at hs
  split at hs
  · cases hs; cases ha
    refine ⟨fun w1 => by simp [Builtin.lenOf], by simp, rfl, fun k hk => ⟨#[], fun w1 _ => by simp [Builtin.firstCells], by simpa using Rl.nil, by simp⟩⟩
  · rename_i nn len
    split at hs
    · rename_i hsz
      have hsz : sz = 1 := by simpa using hsz
      subst hsz
      cases hs
      cases ha with | str _ _ s hst =>
      have hR := bytes_R (E := E) (β := β) hst
      refine ⟨fun w1 => by simp [Builtin.lenOf, hst.size], by rw [bytesOf_len]; omega, ?_, fun k hk => ⟨((s.data.toList.take k).map fun b => Value.int .u8 b.toNat).toArray, fun w1 _ => ?_, ?_, fun u hu => ?_⟩⟩
      · rw [List.all_eq_true]
        intro y hy
        obtain ⟨j, hj, rfl⟩ := List.mem_iff_getElem.1 hy
        rw [bytesOf_get]; rfl
      · have := run_firstCells_str (P := P) (w := w1) 1 k s.data.toList
        simpa using this
      · rw [Nat.mul_one, List.map_take]; exact hR.take k
      · simp only [List.mem_map] at hu
        obtain ⟨b, _, rfl⟩ := hu
        rfl
    · cases hs
  · rename_i b o len s c
    split at hs
    · rename_i hsz
      have hsz : s = sz := by simpa using hsz
      subst hsz
      simp only [Option.bind_eq_some_iff] at hs
      obtain ⟨l', hl', he⟩ := hs; cases he
      obtain ⟨h1, h2, ad, cap, rfl, us, h3, h4⟩ := cells_of_slice (P := P) h hl' ha
      refine ⟨fun w1 => by simp [Builtin.lenOf], h1, h2, fun k hk => ?_⟩
      have hks : k * s ≤ n * s := Nat.mul_le_mul_right _ hk
      refine ⟨_, fun w1 hw => by simp only [Builtin.firstCells]; exact h4 (k * s) hks w1 hw, ⟨by simp; omega, fun j hj => ?_⟩, fun u hu => ?_⟩
      · simp only [List.length_take] at hj
        simp only [List.getElem_take, List.getElem_map, List.getElem_range]
        exact h3 j (by omega)
      · simp only [List.mem_map, List.mem_range] at hu
        obtain ⟨j, hj, rfl⟩ := hu
        have hj' : j < l.length := by omega
        rw [List.all_eq_true] at h2
        exact (h3 j hj').flatVal (h2 _ (List.getElem_mem hj'))
    · cases hs
  · cases hs

theorem numOf_spec : ∀ {l : List V} {n : Nat}, numOf l = some n → ∃ bs : List UInt8, bs.length = l.length ∧ bnum bs = n ∧ ∀ i (h : i < l.length) (h' : i < bs.length), ∃ c : Nat, l[i] = .int .u8 (.ofNat c) ∧ bs[i] = UInt8.ofNat c
  | [], n, h => by simp only [numOf, Option.some.injEq] at h; subst h; exact ⟨[], rfl, rfl, fun i h => by simp at h⟩
  | x :: r, n, h => by
    unfold numOf at h
    split at h
    · rename_i he; cases he
    · rename_i c r' he
      cases he
      split at h
      · rename_i hc
        have hc : c < 256 := by simpa using hc
        simp only [Option.bind_eq_some_iff] at h
        obtain ⟨k, hk, he⟩ := h; cases he
        obtain ⟨bs, h1, h2, h3⟩ := numOf_spec hk
        refine ⟨UInt8.ofNat c :: bs, by simp [h1], by rw [bnum_cons, h2]; simp [Nat.mod_eq_of_lt hc], fun i hi hi' => ?_⟩
        cases i with
        | zero => exact ⟨c, rfl, rfl⟩
        | succ i => exact h3 i (by simpa using hi) (by simpa using hi')
      · cases h
    · cases h

theorem bytesStr_run (h : Inv E w0 O β m w) {x : V} {l : List V} {n : Nat} {a : Value} (hx : szOne x = true) (hs : cellsOf m x = some l) (hn : numOf l = some n) (ha : R E β x a) :
    ∃ v, (Conv.bytesToString a).run P w = .ok v w ∧ R E β (.str n l.length) v := by
  obtain ⟨bs, h1, h2, h3⟩ := numOf_spec hn
  have hst : StrOk n l.length ⟨bs.toArray⟩ := ⟨by simpa using h1, by simpa using h2⟩
  refine ⟨.string ⟨bs.toArray⟩, ?_, .str _ _ _ hst⟩
  cases x with
  | nils =>
    cases ha
    simp only [cellsOf, Option.some.injEq] at hs
    subst hs
    obtain rfl : bs = [] := by simpa using h1
    simp [Conv.bytesToString]; rfl
  | sl b o len sz c =>
    have hsz : sz = 1 := by simpa [szOne] using hx
    subst hsz
    obtain ⟨g1, g2, ad, cap, rfl, us, g3, g4⟩ := cells_of_slice (P := P) h hs ha
    have hlen : len = bs.length := by omega
    have hload := g4 len (by omega) w rfl
    simp only [Conv.bytesToString, Sem.run_bind, hload, Result.andThen_ok]
    have hp := fun f hf => run_pushBytes (P := P) (w := w) (f := f) hf ((List.range len).map us) bs ByteArray.empty (by simp; omega) (fun i hi hi' => by
      simp only [List.length_map, List.length_range] at hi
      have hil : i < l.length := by omega
      obtain ⟨c, e1, e2⟩ := h3 i hil hi'
      have h5 := g3 i hil
      rw [e1] at h5
      have := h5.int_inv
      simp only [List.getElem_map, List.getElem_range]
      exact ⟨c, this, by simpa using e2⟩)
    rw [← Array.forIn_toList]
    simp only [List.toList_toArray]
    rw [hp _ (fun n s => rfl)]
    simp
  | _ => simp [szOne] at hx

end Go.Cx

namespace Go.Cx
variable {E : Ms} {β : Be} {w w0 : World} {m m' : Mem} {P : Program} {O : Nat → Prop} {C : Cx}

/-- A block dies, and a new one comes. -/
theorem Good.dieNew (h : Inv E w0 O β m w) {b : Nat} {p : Pl} (hb : β b = some p) {β' : Be} {x : Blk} {w' : World} (hbn : b ≠ m.nx)
    (k : Inv E w0 O β (m.put b .dead) w → Good E w0 O β (m.put b .dead) w β' ((m.put b .dead).new x) w') : Good E w0 O β m w β' ((m.put b .dead).new x) w' := by
  have g1 := Good.die h hb
  exact g1.trans (k g1.inv)

/-- What append runs to: how many elements come, and their cells. -/
structure AppRun (E : Ms) (β : Be) (P : Program) (w : World) (ts tx e sz bytes : Nat) (ty : TypeId) (n : Nat) (l : List V) (v : Value) : Prop where
  run : ∃ new : Array Value, new.size = n * sz ∧ Rl E β l new.toList ∧ (∀ u ∈ new.toList, cellVal u = true) ∧
    (∀ (base : Option Addr) (len cap : Nat) (w' : World), len + n ≤ cap → (∀ a, base = some a → (storeCells (a.add (len * sz)) new.toList).run P w = .ok () w') → (base = none → w' = w) →
      (Builtin.append_ #[ts, tx] ty #[.slice base len cap, v]).run P w = .ok (.slice base (len + n) cap) w') ∧
    (∀ (base : Option Addr) (len cap : Nat) (old : Array Value), cap < len + n → (len + n) * bytes ≤ 2 ^ 40 → len + n ≤ 2 ^ 40 →
      (∀ w1 : World, w1.heap = w.heap → (Builtin.firstCells sz len (.slice base len cap)).run P w1 = .ok old w1) →
      ∃ (c : Nat) (rest : Array Value), len + n ≤ c ∧ rest.size = (c - (len + n)) * sz ∧
        (Builtin.append_ #[ts, tx] ty #[.slice base len cap, v]).run P w =
          .ok (.slice (some ⟨w.heap.size, 0, none⟩) (len + n) c) (World.alloc { w with drawn := w.drawn + 1 } (.cells (old ++ new ++ rest) e (0, 0))))

theorem AppRun.gives {ts tx e sz bytes : Nat} {i : TypeInfo} {z : Value} (hu : P.underlying ts = some (.slice e)) (hd : P.underlying tx = some .string ∨ ∃ e', P.underlying tx = some (.slice e'))
    (hi : P.info? e = some i) (hz : i.zero = some z) (hsz : i.size = sz) (hb : i.bytes = bytes) (hzs : z.cells.size = sz) (hb0 : 0 < bytes) (hb1 : bytes ≤ 2 ^ 30)
    (ty : TypeId) {n : Nat} {l : List V} {v : Value} (hg : Gv E β P w sz n l v) : AppRun E β P w ts tx e sz bytes ty n l v := by
  obtain ⟨new, hnew, hr, hv⟩ := hg.cells n (Nat.le_refl _)
  rw [← hg.ll, List.take_length] at hr
  have hns : new.size = n * sz := by have := hr.1; simp at this; rw [← this, hg.ll]
  have hl := hg.len
  refine ⟨new, hns, hr, hv, fun base len cap w' hroom hst hno => ?_, fun base len cap old hroom hlim hlim2 hold => ?_⟩
  · rcases hd with hd | ⟨e', hd⟩
    all_goals
      simp only [Builtin.append_]
      simp only [List.getElem?_toArray, List.getElem?_cons_zero, List.getElem?_cons_succ, Sem.run_bind, run_under hu, Result.andThen_ok, run_size hi, run_under hd, Sem.run_pure, hsz,
        Bool.false_eq_true, if_false, hl, Bool.not_false, if_true, if_pos hroom, hnew w rfl]
      cases base with
      | none => rw [hno rfl]; simp
      | some a => simp only [Sem.run_bind, hst a rfl, Result.andThen_ok, Sem.run_pure]
  · generalize hc : (len + n) + w.tape w.drawn (.appendCap (len + n) cap e) % (2 ^ 63 - (len + n)) = c
    refine ⟨c, Builtin.zeroCells z.cells (c - (len + n)), by omega, by simp [Builtin.zeroCells, hzs], ?_⟩
    have h1 : ¬ (((len + n : Nat) : Int) > IntKind.i64.max ∧ (False ∨ i.bytes = 0)) := by
      rw [hb]; rintro ⟨_, h | h⟩
      · exact h
      · omega
    have h2 : ¬ (Builtin.nextslicecap (len + n) cap * i.bytes > 2 ^ 48) := by
      have := nextslicecap_le (len + n) cap hroom
      rw [hb]
      have h3 : Builtin.nextslicecap (len + n) cap * bytes ≤ (2 * (len + n) + 192) * bytes := Nat.mul_le_mul_right _ this
      have h4 : (2 * (len + n) + 192) * bytes = 2 * ((len + n) * bytes) + 192 * bytes := by rw [Nat.add_mul, Nat.mul_assoc]
      omega
    have h3 : ¬ (len + n ≤ cap) := by omega
    rcases hd with hd | ⟨e', hd⟩
    all_goals
      simp only [Builtin.append_]
      simp only [List.getElem?_toArray, List.getElem?_cons_zero, List.getElem?_cons_succ, Sem.run_bind, run_under hu, Result.andThen_ok, run_size hi, run_under hd, Sem.run_pure, hsz,
        Bool.false_eq_true, if_false, hl, Bool.not_false, if_true, if_neg h3, run_info hi, if_neg h1, if_neg h2, run_choose, Question.forced, Question.cut, hc, run_askRoom,
        hold { w with drawn := w.drawn + 1 } rfl, hnew { w with drawn := w.drawn + 1 } rfl, run_zero hi hz, run_newRow]

theorem AppRun.zeros {ts tx e sz bytes : Nat} {kt : IntKind} {i : TypeInfo} {z : Value} {z0 : List V} (hu : P.underlying ts = some (.slice e)) (hd : P.underlying tx = some (.int kt))
    (hi : P.info? e = some i) (hz : i.zero = some z) (hsz : i.size = sz) (hb : i.bytes = bytes) (hzs : z.cells.size = sz) (hb0 : 0 < bytes) (hb1 : bytes ≤ 2 ^ 30) (hpos : 0 < sz) (hzr : Rl E β z0 z.cells.toList) (hzf : z0.all V.flat = true)
    (ty : TypeId) {n : Nat} {k : IntKind} (hlim0 : n * bytes ≤ 2 ^ 40) : AppRun E β P w ts tx e sz bytes ty n (repl z0 n) (.int k (n : Int)) := by
  have hn40 : n ≤ 2 ^ 40 := Nat.le_trans (Nat.le_mul_of_pos_right n hb0) hlim0
  have hw : IntKind.i64.wrap (n : Int) = n := by rw [IntKind.wrap_i64]; omega
  have e1 : ¬ ((n : Int) < 0) := by omega
  have e2 : ¬ ((n : Int) * (i.bytes : Int) > 2 ^ 48) := by
    rw [hb]
    have : (n : Int) * bytes = ((n * bytes : Nat) : Int) := by simp
    rw [this]; omega
  have hR : Rl E β (repl z0 n) (Builtin.zeroCells z.cells n).toList := by
    have := repl_R hzr n
    simpa [Builtin.zeroCells] using this
  have happ : ∀ w1 : World, Sem.run P (if n * i.size = 0 then (pure #[] : Sem (Array Value)) else do pure (Builtin.zeroCells (← zeroValue e).cells n)) w1 = .ok (Builtin.zeroCells z.cells n) w1 := by
    intro w1
    by_cases hq : n = 0
    · subst hq
      rw [if_pos (by simp), Sem.run_pure]
      simp [Builtin.zeroCells]
    · rw [if_neg (by rw [hsz]; exact Nat.mul_ne_zero hq (by omega)), Sem.run_bind, run_zero hi hz, Result.andThen_ok, Sem.run_pure]
  have hfl : (repl z0 n).all V.flat = true := repl_all hzf n
  refine ⟨Builtin.zeroCells z.cells n, by simp [Builtin.zeroCells, hzs], hR, fun u hu' => ?_, fun base len cap w' hroom hst hno => ?_, fun base len cap old hroom hlim hlim2 hold => ?_⟩
  · obtain ⟨j, hj, rfl⟩ := List.mem_iff_getElem.1 hu'
    have hj' : j < (repl z0 n).length := by rw [hR.1]; exact hj
    rw [List.all_eq_true] at hfl
    exact (hR.2 j hj').flatVal (hfl _ (List.getElem_mem hj'))
  · simp only [Builtin.append_]
    simp only [List.getElem?_toArray, List.getElem?_cons_zero, List.getElem?_cons_succ, Sem.run_bind, run_under hu, Result.andThen_ok, run_size hi, run_under hd, Sem.run_pure,
      if_true, Bool.not_true, Bool.false_eq_true, if_false, asInt, asIntOf, hw, if_neg e1, run_info hi, if_neg e2, Int.toNat_natCast, if_pos hroom, happ]
    cases base with
    | none => rw [hno rfl]; simp
    | some a =>
      have := hst a rfl
      rw [← hsz] at this
      simp only [Sem.run_bind, this, Result.andThen_ok, Sem.run_pure]
  · generalize hc : (len + n) + w.tape w.drawn (.appendCap (len + n) cap e) % (2 ^ 63 - (len + n)) = c
    refine ⟨c, Builtin.zeroCells z.cells (c - (len + n)), by omega, by simp [Builtin.zeroCells, hzs], ?_⟩
    have h1 : ¬ (((len + n : Nat) : Int) > IntKind.i64.max ∧ (True ∨ i.bytes = 0)) := by
      rintro ⟨h, _⟩
      have : IntKind.i64.max = 9223372036854775807 := by decide
      omega
    have h2 : ¬ (Builtin.nextslicecap (len + n) cap * i.bytes > 2 ^ 48) := by
      have := nextslicecap_le (len + n) cap hroom
      rw [hb]
      have h3 : Builtin.nextslicecap (len + n) cap * bytes ≤ (2 * (len + n) + 192) * bytes := Nat.mul_le_mul_right _ this
      have h4 : (2 * (len + n) + 192) * bytes = 2 * ((len + n) * bytes) + 192 * bytes := by rw [Nat.add_mul, Nat.mul_assoc]
      omega
    have h3 : ¬ (len + n ≤ cap) := by omega
    have hold' := hold { w with drawn := w.drawn + 1 } rfl
    rw [← hsz] at hold'
    simp only [Builtin.append_]
    simp only [List.getElem?_toArray, List.getElem?_cons_zero, List.getElem?_cons_succ, Sem.run_bind, run_under hu, Result.andThen_ok, run_size hi, run_under hd, Sem.run_pure,
      if_true, Bool.not_true, Bool.false_eq_true, if_false, asInt, asIntOf, hw, if_neg e1, run_info hi, if_neg e2, Int.toNat_natCast, if_neg h3, if_neg h1, if_neg h2, happ,
      run_choose, Question.forced, Question.cut, hc, run_askRoom, hold', run_zero hi hz, run_newRow]

theorem getD_app (a b c : Array Value) (j : Nat) (hj2 : j < (a ++ b).size) (hj : j < (a.toList ++ b.toList).length) : (a ++ b ++ c).getD j undef = (a.toList ++ b.toList)[j] := by
  rw [Array.getD_eq_getD_getElem?, Array.getElem?_append_left hj2]
  simp only [← Array.toList_append, Array.getElem_toList]
  rw [Array.getElem?_eq_getElem hj2]; rfl

/-- a new block for what was and what comes -/
theorem app_new (h : Inv E w0 O β m w) {l l2 : List V} {old new rest : Array Value} (ho : Rl E β l old.toList) (hn : Rl E β l2 new.toList) (e : TypeId) :
    Good E w0 O β m w (updB β m.nx ⟨w.heap.size, 0, (old ++ new ++ rest).size⟩) (newB m (l ++ l2)) (World.alloc { w with drawn := w.drawn + 1 } (.cells (old ++ new ++ rest) e (0, 0))) := by
  have hi := h.draw (w.drawn + 1)
  have hR := ho.append hn
  have hl := hR.1
  have g : Good E w0 O β m { w with drawn := w.drawn + 1 } (updB β m.nx ⟨w.heap.size, 0, (old ++ new ++ rest).size⟩) (newB m (l ++ l2)) (World.alloc { w with drawn := w.drawn + 1 } (.cells (old ++ new ++ rest) e (0, 0))) := by
    refine newB_good hi (fun j hj => ?_) (by rw [hl]; simp) e (0, 0) (bare_zero _)
    have h1 := hR.2 j hj
    have e1 : (old ++ new ++ rest).getD j undef = (old.toList ++ new.toList)[j]'(by omega) := by
      have hj2 : j < (old ++ new).size := by
        rw [List.length_append] at hj
        simp only [List.length_append, Array.length_toList] at hl
        rw [Array.size_append]; omega
      rw [Array.getD_eq_getD_getElem?, Array.getElem?_append_left hj2]
      simp only [← Array.toList_append, Array.getElem_toList]
      rw [Array.getElem?_eq_getElem hj2]; rfl
    rw [e1]; exact h1
  exact ⟨g.inv, g.le, g.new, g.nx, g.unb, g.garb, g.adr, g.grow, g.dies⟩

theorem appendV_run (h : Inv E w0 O β m w) {ts tx e sz bytes : Nat} {ty : TypeId} {n : Nat} {l : List V} {s r : V} {a v : Value} (hpos : 0 < sz) (hg : AppRun E β P w ts tx e sz bytes ty n l v) (ha : R E β s a)
    (hs : appendV m sz bytes s (n, l) = some (r, m')) : ∃ u w' β', (Builtin.append_ #[ts, tx] ty #[a, v]).run P w = .ok u w' ∧ Good E w0 O β m w β' m' w' ∧ R E β' r u := by
  obtain ⟨new, hns, hnr, hnv, room, growR⟩ := hg.run
  have hll : l.length = n * sz := by have := hnr.1; simp at this; omega
  unfold appendV at hs
  split at hs
  · -- nil
    cases ha
    split at hs
    · rename_i h0
      have h0 : n = 0 := by simpa using h0
      cases hs; subst h0
      exact ⟨_, w, β, room none 0 0 w (by omega) (fun a h => by cases h) (fun _ => rfl), .refl h, .nils⟩
    · rename_i h0
      have h0 : n ≠ 0 := by rintro rfl; simp at h0
      split at hs
      · rename_i hc
        simp only [Bool.and_eq_true] at hc
        have c1 : n * bytes ≤ 1099511627776 := by simpa using hc.1
        have c2 : n ≤ 1099511627776 := by simpa using hc.2
        cases hs
        obtain ⟨c, rest, hc1, hrs, hrun⟩ := growR none 0 0 #[] (by omega) (by simpa using c1) (by simpa using c2) (fun w1 _ => by simp [Builtin.firstCells])
        simp only [Nat.zero_add] at hc1 hrs hrun
        have g := app_new h (l := []) (old := #[]) (rest := rest) Rl.nil hnr e
        refine ⟨_, _, _, hrun, g, newB_sl _ _ _ _ n sz c none hc1 (fun k hk => by cases hk) ?_⟩
        simp only [Array.size_append, List.size_toArray, List.length_nil, hns, hrs, Nat.zero_add]
        rw [← Nat.add_mul]; exact Nat.mul_le_mul_right _ (by omega)
      · cases hs
  · rename_i b o len s' cap
    split at hs
    · cases hs
    rename_i hsz
    have hsz : s' = sz := by simpa using hsz
    subst hsz
    cases ha with | sl _ _ _ _ _ rc ad p hb hlen hc had hn =>
    split at hs
    · rename_i h0
      have h0 : n = 0 := by simpa using h0
      cases hs; subst h0
      have hnew : new.toList = [] := by have := hns; simp at this; simp [this]
      refine ⟨_, w, β, room (some ⟨p.a, ad, none⟩) len rc w (by omega) (fun a h => ?_) (fun h => by cases h), .refl h, .sl b o len s' cap rc ad p hb hlen hc had hn⟩
      rw [hnew]; simp [storeCells, Sem.run, pure]
    rename_i h0
    have h0 : n ≠ 0 := by rintro rfl; simp at h0
    split at hs
    · cases hs
    rename_i hlim
    simp only [Bool.and_eq_true] at hlim
    have c1 : (len + n) * bytes ≤ 1099511627776 := by simpa using hlim.1
    have c2 : len + n ≤ 1099511627776 := by simpa using hlim.2
    split at hs
    · rename_i c nn hat
      have hbx := h.box b p hb
      rw [hat] at hbx
      cases hbx with | live _ _ vals tyv fr hh hvs hbare hfit hr =>
      have hbn : b ≠ m.nx := by have := h.lt b (by rw [hb]; simp); omega
      have hliv : liv (m.at b) = true := by rw [hat]; rfl
      -- the old cells, where the machine asks for them
      have old_ok : o + len * s' ≤ nn → ∀ w1 : World, w1.heap = w.heap → (Builtin.firstCells s' len (.slice (some ⟨p.a, ad, none⟩) len rc)).run P w1 = .ok ((List.range (len * s')).map fun j => vals.getD (p.base + (o + j)) undef).toArray w1 := by
        intro hle w1 hw
        simp only [Builtin.firstCells]
        by_cases hl0 : len * s' = 0
        · rw [hl0]; simp [loadCells, loadCellsFrom]
        · have hadp : ad = p.base + o := by
            rcases had with h1 | h1
            · subst h1
              obtain rfl : len = 0 := by omega
              simp at hl0
            · exact h1
          subst hadp
          refine loadCells_run P _ _ _ _ _ fun j hj => ?_
          have : w1.cell? ⟨p.a, p.base + o + j, none⟩ = w.cell? ⟨p.a, p.base + o + j, none⟩ := by simp only [World.cell?, hw]
          rw [this, Nat.add_assoc]
          exact live_cell hh (by omega)
      have old_R : o + len * s' ≤ nn → Rl E β (cgets c o (len * s')) ((List.range (len * s')).map fun j => vals.getD (p.base + (o + j)) undef).toArray.toList := by
        intro hle
        refine ⟨by simp [cgets_len], fun j hj => ?_⟩
        rw [cgets_len] at hj
        rw [cgets_get]
        simpa using hr (o + j) (by omega)
      have cells_inv : ∀ {l' : List V}, cellsOf m (.sl b o len s' cap) = some l' → o + len * s' ≤ nn ∧ l' = cgets c o (len * s') := by
        intro l' hl'
        simp only [cellsOf, hat] at hl'
        split at hl'
        · rename_i hle
          split at hl'
          · cases hl'; exact ⟨by simpa using hle, rfl⟩
          · cases hl'
        · cases hl'
      have sizes : ∀ (c' : Nat) (rest : Array Value), len + n ≤ c' → rest.size = (c' - (len + n)) * s' → c' * s' ≤ ((((List.range (len * s')).map fun j => vals.getD (p.base + (o + j)) undef).toArray ++ new ++ rest).size) := by
        intro c' rest h1 h2
        simp only [Array.size_append, List.size_toArray, List.length_map, List.length_range, hns, h2]
        rw [← Nat.add_mul, ← Nat.add_mul]; exact Nat.mul_le_mul_right _ (by omega)
      split at hs
      · -- its room is known
        rename_i k
        have hrc : rc = k := hc k rfl
        split at hs
        · rename_i hroom
          have hroom : len + n ≤ k := by simpa using hroom
          split at hs
          · rename_i hok
            have hok : o + k * s' ≤ nn := by simpa using hok
            cases hs
            have hadp : ad = p.base + o := by rcases had with h1 | h1; · omega
                                              · exact h1
            subst hadp
            have hmul : len * s' + n * s' ≤ k * s' := by rw [← Nat.add_mul]; exact Nat.mul_le_mul_right _ hroom
            have hfit2 : p.base + o + len * s' + new.toList.length ≤ vals.size := by simp only [Array.length_toList, hns]; omega
            have hst := storeCells_run P new.toList w p.a (p.base + o + len * s') 0 vals tyv fr hh (by omega) hbare hnv
            simp only [Nat.add_zero] at hst
            refine ⟨_, wset w p.a (.cells (putsV vals (p.base + o + len * s') new.toList) tyv fr), β, room (some ⟨p.a, p.base + o, none⟩) len rc _ (by omega) (fun a ha => ?_) (fun h => by cases h), ?_, .sl b o (len + n) s' (some k) rc _ p hb (by omega) hc (.inr rfl) hn⟩
            · cases ha; rw [addr_add]; exact hst
            · refine h.write_live hb hat hh (putsV_size _ _ _) (.live (csets c (o + len * s') l) nn) rfl fun w1 hh1 => ?_
              refine .live _ nn _ tyv fr hh1 (by rw [putsV_size]; exact hvs) (by rw [putsV_size]; exact hbare) hfit fun j hj => ?_
              rw [csets_get, Array.getD_eq_getD_getElem?, putsV_get _ _ _ _ hfit2]
              by_cases e : o + len * s' ≤ j ∧ j < o + len * s' + l.length
              · rw [dif_pos e, if_pos (by simp only [Array.length_toList, hns]; omega)]
                have := hnr.2 (j - (o + len * s')) (by omega)
                rw [show p.base + j - (p.base + o + len * s') = j - (o + len * s') from by omega, List.getElem?_eq_getElem (by simp only [Array.length_toList, hns]; omega)]
                exact this
              · rw [dif_neg e, if_neg (by simp only [Array.length_toList, hns]; omega)]
                have := hr j hj
                rwa [Array.getD_eq_getD_getElem?] at this
          · cases hs
        · rename_i hroom
          have hroom : ¬ (len + n ≤ k) := by
            intro hle
            have h5 : Nat.ble (len + n) k = true := by simpa using hle
            exact absurd (hroom.symm.trans h5) (by simp)
          simp only [Option.bind_eq_some_iff] at hs
          obtain ⟨l', hl', he⟩ := hs; cases he
          obtain ⟨hle, rfl⟩ := cells_inv hl'
          obtain ⟨c', rest, hc1, hrs, hrun⟩ := growR (some ⟨p.a, ad, none⟩) len rc _ (by omega) c1 c2 (old_ok hle)
          exact ⟨_, _, _, hrun, app_new h (old_R hle) hnr e, newB_sl _ _ _ _ (len + n) s' c' none hc1 (fun k hk => by cases hk) (sizes c' rest hc1 hrs)⟩
      · -- nobody knows its room
        split at hs
        · cases hs
        rename_i hok
        have hok : o + len * s' ≤ nn := by simpa using hok
        have inplace : len + n ≤ rc → ∀ (cc : Tr V), (∀ j, j < (len + n) * s' → R E (updB β m.nx ⟨p.a, p.base + o, p.n⟩) (cget cc j) ((putsV vals (p.base + o + len * s') new.toList).getD (p.base + o + j) undef)) →
            ∃ u w' β', (Builtin.append_ #[ts, tx] ty #[.slice (some ⟨p.a, ad, none⟩) len rc, v]).run P w = .ok u w' ∧ Good E w0 O β m w β' ((m.put b .dead).new (.live cc ((len + n) * s'))) w' ∧ R E β' (.sl m.nx 0 (len + n) s' none) u := by
          intro hroom cc hcc
          have hadp : ad = p.base + o := by rcases had with h1 | h1; · omega
                                            · exact h1
          subst hadp
          have hmul : len * s' + n * s' ≤ rc * s' := by rw [← Nat.add_mul]; exact Nat.mul_le_mul_right _ hroom
          have hfit2 : p.base + o + len * s' + new.toList.length ≤ vals.size := by simp only [Array.length_toList, hns]; omega
          have hst := storeCells_run P new.toList w p.a (p.base + o + len * s') 0 vals tyv fr hh (by omega) hbare hnv
          simp only [Nat.add_zero] at hst
          refine ⟨_, wset w p.a (.cells (putsV vals (p.base + o + len * s') new.toList) tyv fr), updB β m.nx ⟨p.a, p.base + o, p.n⟩, room (some ⟨p.a, p.base + o, none⟩) len rc _ hroom (fun a ha => ?_) (fun h => by cases h), ?_, ?_⟩
          · cases ha; rw [addr_add]; exact hst
          · refine Good.turn h hb hliv (.live cc ((len + n) * s')) _ (p.base + o) rfl (fun q hq => ?_) fun w1 hh1 => ?_
            · rw [osz_of hh] at hq
              rw [osz_of (wset_at (h.own b p hb hliv).2 _), putsV_size]; exact hq
            · exact .live cc _ _ tyv fr hh1 (by rw [putsV_size]; exact hvs) (by rw [putsV_size]; exact hbare) (by rw [Nat.add_mul]; simp only; omega) hcc
          · have := R.sl (E := E) (β := updB β m.nx ⟨p.a, p.base + o, p.n⟩) m.nx 0 (len + n) s' none rc (p.base + o) ⟨p.a, p.base + o, p.n⟩ (updB_self _ _ _) hroom (fun k hk => by cases hk) (.inr rfl) (by simpa using hn)
            exact this
        have hgetL : len + n ≤ rc → ∀ j, j < (len + n) * s' → (putsV vals (p.base + o + len * s') new.toList).getD (p.base + o + j) undef = if j < len * s' then vals.getD (p.base + (o + j)) undef else new.getD (j - len * s') undef := by
          intro hroom j hj
          have hmul : len * s' + n * s' ≤ rc * s' := by rw [← Nat.add_mul]; exact Nat.mul_le_mul_right _ hroom
          have hfit2 : p.base + o + len * s' + new.toList.length ≤ vals.size := by simp only [Array.length_toList, hns]; omega
          rw [Nat.add_mul] at hj
          rw [Array.getD_eq_getD_getElem?, putsV_get _ _ _ _ hfit2]
          by_cases e : j < len * s'
          · rw [if_neg (by omega), if_pos e, Array.getD_eq_getD_getElem?, Nat.add_assoc]
          · rw [if_pos (by simp only [Array.length_toList, hns]; omega), if_neg e, show p.base + o + j - (p.base + o + len * s') = j - len * s' from by omega, Array.getD_eq_getD_getElem?, Array.getElem?_toList]
        have hnewR : ∀ j, ∀ (h1 : len * s' ≤ j) (h2 : j < (len + n) * s'), R E (updB β m.nx ⟨p.a, p.base + o, p.n⟩) (l[j - len * s']'(by have h3 := h2; rw [Nat.add_mul] at h3; rw [hll]; omega)) (new.getD (j - len * s') undef) := by
          intro j h1 h2
          have h3 := h2
          rw [Nat.add_mul] at h3
          have := (hnr.2 (j - len * s') (by omega)).mono (Le.updB h.fresh ⟨p.a, p.base + o, p.n⟩)
          rw [Array.getD_eq_getD_getElem?, Array.getElem?_eq_getElem (by rw [hns]; omega)]
          simpa using this
        by_cases hroom : len + n ≤ rc
        · split at hs
          · rename_i ho
            have ho : o = 0 := by simpa using ho
            cases hs
            refine inplace hroom _ fun j hj => ?_
            rw [hgetL hroom j hj, csets_get]
            by_cases e : j < len * s'
            · rw [dif_neg (by omega), if_pos e]
              subst ho
              have := (hr j (by omega)).mono (Le.updB h.fresh ⟨p.a, p.base + 0, p.n⟩)
              rw [Nat.zero_add]; exact this
            · rw [dif_pos (by have h5 : ((n, l).2).length = n * s' := hll; have hj' : j < (len + n) * s' := hj; rw [Nat.add_mul] at hj'; rw [h5]; omega), if_neg e]
              exact hnewR j (by omega) hj
          · simp only [Option.bind_eq_some_iff] at hs
            obtain ⟨l', hl', he⟩ := hs; cases he
            obtain ⟨hle, rfl⟩ := cells_inv hl'
            have hlen2 : (cgets c o (len * s') ++ l).length = (len + n) * s' := by rw [List.length_append, cgets_len, hll, Nat.add_mul]
            have := inplace hroom (csets .lf 0 (cgets c o (len * s') ++ l)) fun j hj => by
              rw [hgetL hroom j hj, csets_get, dif_pos (by rw [hlen2, Nat.zero_add]; exact ⟨Nat.zero_le _, hj⟩)]
              simp only [Nat.sub_zero]
              by_cases e : j < len * s'
              · rw [if_pos e, List.getElem_append_left (by rw [cgets_len]; exact e), cgets_get]
                exact (hr (o + j) (by omega)).mono (Le.updB h.fresh _)
              · rw [if_neg e, List.getElem_append_right (by rw [cgets_len]; omega)]
                simp only [cgets_len]
                exact hnewR j (by omega) hj
            unfold newB
            rw [hlen2]; exact this
        · -- a new block
          obtain ⟨c', rest, hc1, hrs, hrun⟩ := growR (some ⟨p.a, ad, none⟩) len rc _ (by omega) c1 c2 (old_ok hok)
          have fin : ∀ x : Blk, (∀ w1 : World, w1.heap[w.heap.size]? = some (.cells (((List.range (len * s')).map fun j => vals.getD (p.base + (o + j)) undef).toArray ++ new ++ rest) e (0, 0)) → BoxAt E (updB β m.nx ⟨w.heap.size, 0, (((List.range (len * s')).map fun j => vals.getD (p.base + (o + j)) undef).toArray ++ new ++ rest).size⟩) w1 ⟨w.heap.size, 0, (((List.range (len * s')).map fun j => vals.getD (p.base + (o + j)) undef).toArray ++ new ++ rest).size⟩ x) → liv x = true →
              ∃ u w' β', (Builtin.append_ #[ts, tx] ty #[.slice (some ⟨p.a, ad, none⟩) len rc, v]).run P w = .ok u w' ∧ Good E w0 O β m w β' ((m.put b .dead).new x) w' ∧ R E β' (.sl m.nx 0 (len + n) s' none) u := by
            intro x hx hlx
            refine ⟨_, _, updB β m.nx ⟨w.heap.size, 0, (((List.range (len * s')).map fun j => vals.getD (p.base + (o + j)) undef).toArray ++ new ++ rest).size⟩, hrun, Good.dieNew h hb hbn fun hi => ?_, newB_sl β m _ _ (len + n) s' c' none hc1 (fun k hk => by cases hk) (sizes c' rest hc1 hrs)⟩
            have g := Good.newB (hi.draw (w.drawn + 1)) x _ 0 (((List.range (len * s')).map fun j => vals.getD (p.base + (o + j)) undef).toArray ++ new ++ rest).size hlx hx
            exact ⟨g.inv, g.le, g.new, g.nx, g.unb, g.garb, g.adr, g.grow, g.dies⟩
          have hRall := (old_R hok).append hnr
          have hRget : ∀ j (hj : j < (len + n) * s'), R E β ((cgets c o (len * s') ++ l)[j]'(by rw [List.length_append, cgets_len, hll, ← Nat.add_mul]; exact hj)) ((((List.range (len * s')).map fun j => vals.getD (p.base + (o + j)) undef).toArray ++ new ++ rest).getD j undef) := by
            intro j hj
            have hj1 : j < (cgets c o (len * s') ++ l).length := by rw [List.length_append, cgets_len, hll, ← Nat.add_mul]; exact hj
            have h1 := hRall.2 j hj1
            have hl2 := hRall.1
            have hj2 : j < (((List.range (len * s')).map fun j => vals.getD (p.base + (o + j)) undef).toArray ++ new).size := by
              simp only [Array.size_append, List.size_toArray, List.length_map, List.length_range, hns]; rw [← Nat.add_mul]; exact hj
            have e1 : (((List.range (len * s')).map fun j => vals.getD (p.base + (o + j)) undef).toArray ++ new ++ rest).getD j undef = (((List.range (len * s')).map fun j => vals.getD (p.base + (o + j)) undef).toArray.toList ++ new.toList)[j]'(by omega) := getD_app _ _ _ j hj2 (by omega)
            rw [e1]; exact h1
          have hfitN : (len + n) * s' ≤ (((List.range (len * s')).map fun j => vals.getD (p.base + (o + j)) undef).toArray ++ new ++ rest).size := by
            simp only [Array.size_append, List.size_toArray, List.length_map, List.length_range, hns]; rw [Nat.add_mul]; omega
          split at hs
          · rename_i ho
            have ho : o = 0 := by simpa using ho
            cases hs
            refine fin _ (fun w1 hh1 => ?_) rfl
            refine .live _ _ _ e (0, 0) hh1 rfl (bare_zero _) (by simpa using hfitN) fun j hj => ?_
            have h1 := (hRget j hj).mono (Le.updB h.fresh ⟨w.heap.size, 0, (((List.range (len * s')).map fun j => vals.getD (p.base + (o + j)) undef).toArray ++ new ++ rest).size⟩)
            rw [csets_get]
            simp only [Nat.zero_add]
            by_cases e : j < len * s'
            · rw [dif_neg (by omega)]
              rw [List.getElem_append_left (by rw [cgets_len]; exact e), cgets_get] at h1
              subst ho
              rw [Nat.zero_add] at h1
              exact h1
            · rw [dif_pos (by have h5 : ((n, l).2).length = n * s' := hll; have hj' : j < (len + n) * s' := hj; rw [Nat.add_mul] at hj'; rw [h5]; omega)]
              rw [List.getElem_append_right (by rw [cgets_len]; omega)] at h1
              simp only [cgets_len] at h1
              exact h1
          · simp only [Option.bind_eq_some_iff] at hs
            obtain ⟨l', hl', he⟩ := hs; cases he
            obtain ⟨hle, rfl⟩ := cells_inv hl'
            have hlen2 : (cgets c o (len * s') ++ l).length = (len + n) * s' := by rw [List.length_append, cgets_len, hll, Nat.add_mul]
            refine fin _ (fun w1 hh1 => ?_) rfl
            refine .live _ _ _ e (0, 0) hh1 rfl (bare_zero _) (by rw [hlen2]; simpa using hfitN) fun j hj => ?_
            rw [hlen2] at hj
            have h1 := (hRget j hj).mono (Le.updB h.fresh ⟨w.heap.size, 0, (((List.range (len * s')).map fun j => vals.getD (p.base + (o + j)) undef).toArray ++ new ++ rest).size⟩)
            rw [csets_get, dif_pos (by rw [hlen2, Nat.zero_add]; exact ⟨Nat.zero_le _, hj⟩)]
            simp only [Nat.zero_add, Nat.sub_zero]
            exact h1
    · cases hs
  · cases hs

end Go.Cx

namespace Go.Cx
variable {E : Ms} {β : Be} {w w0 : World} {m m' : Mem} {P : Program} {O : Nat → Prop} {C : Cx}

/-! ### copy -/
theorem copyV_run (h : Inv E w0 O β m w) {td ts e sz : Nat} {i : TypeInfo} (hu : P.underlying td = some (.slice e)) (hi : P.info? e = some i) (hsz : i.size = sz) (hpos : 0 < sz) (ty : TypeId) {d x r : V} {a b : Value}
    (hs : copyV m sz d x = some (r, m')) (ha : R E β d a) (hb : R E β x b) : ∃ v w', (Builtin.copy_ #[td, ts] ty #[a, b]).run P w = .ok v w' ∧ Good E w0 O β m w β m' w' ∧ R E β r v := by
  have hmin : ∀ x y : Nat, Nat.min x y = min x y := fun _ _ => rfl
  unfold copyV at hs
  simp only [Option.bind_eq_some_iff] at hs
  obtain ⟨⟨n, l⟩, hgv, hs⟩ := hs
  have hg := given_run (P := P) h hgv hb
  have hl := hg.len w
  split at hs
  · cases hs; cases ha
    obtain ⟨new, hnew, _, _⟩ := hg.cells 0 (Nat.zero_le _)
    refine ⟨.int .i64 (0 : Nat), w, ?_, .refl h, .int _ _⟩
    have h0 : min n 0 = 0 := Nat.min_zero _
    simp only [Builtin.copy_, List.getElem?_toArray, List.getElem?_cons_zero, List.getElem?_cons_succ, Sem.run_bind, run_under hu, Result.andThen_ok, hl, hmin, h0, run_size hi, hsz, hnew w rfl, Sem.run_pure, goInt]
  · rename_i bl o len s c
    split at hs
    · rename_i cc nn hss hat
      have hss : s = sz := by simpa using hss
      subst hss
      split at hs
      · rename_i hle
        have hle : o + len * s ≤ nn := by simpa using hle
        cases hs
        cases ha with | sl _ _ _ _ _ rc ad p hbl hlen hc had hn =>
        have hbx := h.box bl p hbl
        rw [hat] at hbx
        cases hbx with | live _ _ vals tyv fr hh hvs hbare hfit hr =>
        have hkn : min n len ≤ n := Nat.min_le_left _ _
        have hkl : min n len ≤ len := Nat.min_le_right _ _
        obtain ⟨new, hnew, hnr, hnv⟩ := hg.cells (min n len) hkn
        have hll := hg.ll
        have hmul1 : min n len * s ≤ n * s := Nat.mul_le_mul_right _ hkn
        have hmul2 : min n len * s ≤ len * s := Nat.mul_le_mul_right _ hkl
        have hns : new.size = min n len * s := by have := hnr.1; simp at this; omega
        by_cases h0 : min n len = 0
        · have hnew0 : new.toList = [] := by have := hns; rw [h0] at this; simp at this; simp [this]
          have hst : (storeCells ⟨p.a, ad, none⟩ new.toList).run P w = .ok () w := by rw [hnew0]; simp [storeCells, Sem.run, pure]
          refine ⟨.int .i64 (min n len : Nat), w, ?_, ?_, .int _ _⟩
          · simp only [Builtin.copy_, List.getElem?_toArray, List.getElem?_cons_zero, List.getElem?_cons_succ, Sem.run_bind, run_under hu, Result.andThen_ok, hl, hmin, run_size hi, hsz, hnew w rfl, hst, Sem.run_pure, goInt]
          · -- the same cells, put anew
            have e1 : w = wset w p.a (.cells vals tyv fr) := (wset_same hh).symm
            have g := h.write_live hbl hat hh rfl (.live (csets cc o (l.take (Nat.min n len * s))) nn) rfl fun w1 hh1 => by
              refine .live _ nn vals tyv fr hh1 hvs hbare hfit fun j hj => ?_
              rw [csets_get, dif_neg]
              · exact hr j hj
              · rw [hmin, h0]; simp
            rw [← e1] at g
            exact g
        · have hadp : ad = p.base + o := by
            rcases had with h1 | h1
            · omega
            · exact h1
          subst hadp
          have hfit2 : p.base + o + new.toList.length ≤ vals.size := by simp only [Array.length_toList, hns]; omega
          have hst := storeCells_run P new.toList w p.a (p.base + o) 0 vals tyv fr hh (by omega) hbare hnv
          simp only [Nat.add_zero] at hst
          refine ⟨.int .i64 (min n len : Nat), wset w p.a (.cells (putsV vals (p.base + o) new.toList) tyv fr), ?_, ?_, .int _ _⟩
          · simp only [Builtin.copy_, List.getElem?_toArray, List.getElem?_cons_zero, List.getElem?_cons_succ, Sem.run_bind, run_under hu, Result.andThen_ok, hl, hmin, run_size hi, hsz, hnew w rfl, hst, Sem.run_pure, goInt]
          · refine h.write_live hbl hat hh (putsV_size _ _ _) (.live (csets cc o (l.take (Nat.min n len * s))) nn) rfl fun w1 hh1 => ?_
            refine .live _ nn _ tyv fr hh1 (by rw [putsV_size]; exact hvs) (by rw [putsV_size]; exact hbare) hfit fun j hj => ?_
            have htl : (l.take (Nat.min n len * s)).length = min n len * s := by rw [List.length_take, hmin]; omega
            rw [csets_get, Array.getD_eq_getD_getElem?, putsV_get _ _ _ _ hfit2]
            by_cases e : o ≤ j ∧ j < o + (l.take (Nat.min n len * s)).length
            · rw [dif_pos e, if_pos (by simp only [Array.length_toList, hns]; rw [htl] at e; omega)]
              have := hnr.2 (j - o) (by rw [htl] at e; rw [List.length_take]; omega)
              rw [show p.base + j - (p.base + o) = j - o from by omega, List.getElem?_eq_getElem (by simp only [Array.length_toList, hns]; rw [htl] at e; omega)]
              exact this
            · rw [dif_neg e, if_neg (by simp only [Array.length_toList, hns]; rw [htl] at e; omega)]
              have := hr j hj
              rwa [Array.getD_eq_getD_getElem?] at this
      · cases hs
    · cases hs
  · cases hs

/-! ### through a string -/
theorem range_run (h : Inv E w0 O β m w) {t : TypeId} (hu : P.underlying t = some .string) {n l : Nat} {a : Value} (ha : R E β (.str n l) a) :
    ∃ v w' β', (Instr.range t a).run P w = .ok v w' ∧ Good E w0 O β m w β' (m.new (.iter n l 0)) w' ∧ R E β' (.it m.nx) v := by
  cases ha with | str _ _ s hst =>
  refine ⟨.pointer (some ⟨w.heap.size, 0, none⟩), w.alloc (.stringIter s 0), updB β m.nx ⟨w.heap.size, 0, 0⟩, ?_, ?_, .it m.nx ⟨w.heap.size, 0, 0⟩ (updB_self _ _ _)⟩
  · simp only [Instr.range, Sem.run_bind, run_under hu, Result.andThen_ok, Sem.run_pure]
    rfl
  · exact Good.newB h (.iter n l 0) (.stringIter s 0) 0 0 rfl fun w1 hh => .iter n l 0 s hh hst

theorem utf8_ascii {s : ByteArray} {p : Nat} {c : UInt8} (h : s[p]? = some c) (hc : c.toNat < 128) : Utf8.decode s p = (c.toNat, 1) := by
  have e : s.get! (p + 0) = c := by
    rw [Nat.add_zero]
    rw [getElem?_eq_some_iff] at h
    obtain ⟨h1, h2⟩ := h
    rw [← h2]
    show s.data[p]! = _
    rw [getElem!_pos s.data p h1]
    rfl
  have h' : c.toNat < 0x80 := hc
  simp only [Utf8.decode, e, if_pos h']

theorem run_getIter {r : Nat} {s : ByteArray} {q : Nat} (h : w.heap[r]? = some (.stringIter s q)) : (getObj r).run P w = .ok (.stringIter s q) w := by
  simp [getObj, Sem.run, h]
theorem run_setIter {r : Nat} {s : ByteArray} {q : Nat} (h : w.heap[r]? = some (.stringIter s q)) (o : Obj) : (setObj r o).run P w = .ok () (wset w r o) := by
  simp [setObj, Sem.run, h, wset]

theorem nextV_run (h : Inv E w0 O β m w) (ty : TypeId) {x r : V} {a : Value} (hs : nextV m x = some (r, m')) (ha : R E β x a) :
    ∃ v w', (Instr.next a true ty).run P w = .ok v w' ∧ Good E w0 O β m w β m' w' ∧ R E β r v := by
  unfold nextV at hs
  split at hs
  · rename_i b
    split at hs
    · rename_i n l p hat
      cases ha with | it _ q hb =>
      have hbx := h.box b q hb
      rw [hat] at hbx
      cases hbx with | iter _ _ _ s hh hst =>
      have hobj := run_getIter (P := P) hh
      have hset := fun o => run_setIter (P := P) hh o
      split at hs
      · rename_i hlt
        have hlt : p < l := by simpa using hlt
        split at hs
        · rename_i hc
          have hc : n / 256 ^ p % 256 < 128 := by simpa using hc
          cases hs
          obtain ⟨c, hc1, hc2⟩ := hst.get hlt
          have hdec := utf8_ascii hc1 (by omega)
          refine ⟨.tuple #[.bool true, goInt p, .int .i32 c.toNat], wset w q.a (.stringIter s (p + 1)), ?_, ?_, ?_⟩
          · have hps : p < s.size := by rw [hst.size]; exact hlt
            simp only [Instr.next, Sem.run_bind, hobj, Result.andThen_ok, if_pos hps, hdec, hset, Sem.run_pure]
          · exact Good.write h hb (by rw [hat]; rfl) (.iter n l (p + 1)) _ rfl (fun k hk => by
              unfold osz at hk; rw [hh] at hk; cases hk) fun w1 hh1 => .iter n l (p + 1) s hh1 hst
          · refine .tup _ _ rfl fun j hj => ?_
            match j, hj with
            | 0, _ => exact .bool _
            | 1, _ => exact .int _ _
            | 2, _ => rw [← hc2]; exact .int _ _
        · cases hs
      · rename_i hlt
        have hlt : ¬ p < l := by
          intro h5
          have h6 : Nat.blt p l = true := by simpa using h5
          exact absurd (hlt.symm.trans h6) (by simp)
        cases hs
        refine ⟨.tuple #[.bool false], w, ?_, .refl h, .tup _ _ rfl fun j hj => ?_⟩
        · have hps : ¬ p < s.size := by rw [hst.size]; exact hlt
          simp only [Instr.next, Sem.run_bind, hobj, Result.andThen_ok, if_neg hps, Sem.run_pure]
        · match j, hj with
          | 0, _ => exact .bool _
    · cases hs
  · cases hs

end Go.Cx

/- The program's code, turned once into operations of few kinds, and run. -/
namespace Go.Cx

inductive Pth where
  | e | l (p : Pth) | r (p : Pth)

noncomputable def Pth.of (f : Nat) : Nat → Pth :=
  Nat.rec (motive := fun _ => Nat → Pth) (fun _ => .e) (fun _ ih n => Nat.rec (motive := fun _ => Pth) .e (fun m _ => Nat.rec (motive := fun _ => Pth) (.l (ih (m / 2))) (fun _ _ => .r (ih (m / 2))) (m % 2)) n) f

noncomputable def gpE (t : Tr V) : V := Tr.rec (motive := fun _ => V) .bad (fun v _ _ _ _ => v) t
noncomputable def gpL (ih : Tr V → V) (t : Tr V) : V := Tr.rec (motive := fun _ => V) .bad (fun _ l _ _ _ => ih l) t
noncomputable def gpR (ih : Tr V → V) (t : Tr V) : V := Tr.rec (motive := fun _ => V) .bad (fun _ _ r _ _ => ih r) t
noncomputable def gp (p : Pth) : Tr V → V := Pth.rec (motive := fun _ => Tr V → V) gpE (fun _ ih => gpL ih) (fun _ ih => gpR ih) p
noncomputable def spE (x : V) (t : Tr V) : Tr V := Tr.rec (motive := fun _ => Tr V) (.nd x .lf .lf) (fun _ l r _ _ => .nd x l r) t
noncomputable def spL (ih : Tr V → Tr V) (t : Tr V) : Tr V := Tr.rec (motive := fun _ => Tr V) (.nd .bad (ih .lf) .lf) (fun v l r _ _ => .nd v (ih l) r) t
noncomputable def spR (ih : Tr V → Tr V) (t : Tr V) : Tr V := Tr.rec (motive := fun _ => Tr V) (.nd .bad .lf (ih .lf)) (fun v l r _ _ => .nd v l (ih r)) t
noncomputable def sp (x : V) (p : Pth) : Tr V → Tr V := Pth.rec (motive := fun _ => Tr V → Tr V) (spE x) (fun _ ih => spL ih) (fun _ ih => spR ih) p

inductive Ox where
  | l (t : Nat) | v (p : Pth) | c (x : V)
inductive Lc where
  | nil | cons (t : Nat) (v : V) (r : Lc)
noncomputable def lgC (t : Nat) (v : V) (ih : Nat → V) (n : Nat) : V := Bool.rec (motive := fun _ => V) (ih n) v (Nat.beq t n)
noncomputable def lget (c : Lc) : Nat → V := Lc.rec (motive := fun _ => Nat → V) (fun _ => .bad) (fun t v _ ih => lgC t v ih) c

/-- a frame: what goes on, what is of one region alone, deferred calls, memory -/
structure Fr where
  tr : Tr V
  lc : Lc
  df : List (V × List V)
  m : Mem

noncomputable def oxL (t : Nat) (s : Fr) : V := lget s.lc t
noncomputable def oxP (p : Pth) (s : Fr) : V := gp p s.tr
noncomputable def oxC (x : V) (_ : Fr) : V := x
noncomputable def ox (o : Ox) : Fr → V := Ox.rec (motive := fun _ => Fr → V) oxL oxP oxC o
noncomputable def oxs (l : List Ox) (s : Fr) : List V := List.rec (motive := fun _ => List V) [] (fun o _ ih => ox o s :: ih) l

inductive Dst where
  | no | l (t : Nat) | v (p : Pth)
noncomputable def putLo (t : Nat) (s : Fr) (x : V) : Fr := ⟨s.tr, .cons t x s.lc, s.df, s.m⟩
noncomputable def putP (p : Pth) (s : Fr) (x : V) : Fr := ⟨sp x p s.tr, s.lc, s.df, s.m⟩
noncomputable def putN (s : Fr) (_ : V) : Fr := s
noncomputable def put (d : Dst) : Fr → V → Fr := Dst.rec (motive := fun _ => Fr → V → Fr) putN putLo putP d

abbrev F1 := V → (V → Ans) → Ans → Ans
abbrev F2 := V → V → (V → Ans) → Ans → Ans
/-- operations by what they do: nothing to memory (u1, u2, pick, un), look at it (ld), make something new (al), write (ef), call, defer -/
inductive K where
  | u1 (f : F1) (x : Ox)
  | u2 (f : F2) (x y : Ox)
  | pick (c x y : Ox)
  | un (f : List V → Option V) (xs : List Ox)
  | ld (f : Mem → List V → Option V) (xs : List Ox)
  | al (f : Mem → List V → Option (V × Mem)) (xs : List Ox)
  | ef (f : Mem → List V → Option (V × Mem)) (xs : List Ox)
  | call (f : Ox) (xs : List Ox)
  | dfr (f : Ox) (xs : List Ox)
  | bad

noncomputable def retO (o : Option V) (k : V → Ans) (e : Ans) : Ans := Option.rec (motive := fun _ => Ans) e (fun v => fV v k) o
noncomputable def mvK : F1 := fun x k _ => k x
noncomputable def u1K (f : V → Option V) : F1 := fun x k e => retO (f x) k e
noncomputable def u2K (f : V → V → Option V) : F2 := fun x y k e => retO (f x y) k e

noncomputable def toI2 (x y : V) (f : IntKind → Int → Int → Ans) (e : Ans) : Ans := match x with
  | .int k a => match y with
    | .int k' b => match kEq k k' with | true => f k a b | false => e
    | _ => e
  | _ => e
noncomputable def addI (k : V → Ans) (d : IntKind) (a b : Int) : Ans := fI (wrapF d (Int.add a b)) fun n => k (.int d n)
noncomputable def subI (k : V → Ans) (d : IntKind) (a b : Int) : Ans := fI (wrapF d (Int.sub a b)) fun n => k (.int d n)
noncomputable def cmpI (f : Int → Int → Bool) (k : V → Ans) (_ : IntKind) (a b : Int) : Ans := fB (f a b) fun b => k (.bool b)
noncomputable def addK : F2 := fun x y k e => toI2 x y (addI k) e
noncomputable def subK : F2 := fun x y k e => toI2 x y (subI k) e
noncomputable def cmpK (f : Int → Int → Bool) : F2 := fun x y k e => toI2 x y (cmpI f k) e
def geI (a b : Int) : Bool := !(ltI a b)
def leI (a b : Int) : Bool := !(ltI b a)
def gtI (a b : Int) : Bool := ltI b a
def neI (a b : Int) : Bool := !(eqI a b)

noncomputable def intT (C : Cx) (t : TypeId) : Bool := match undT C.P t with | some (.int _) => true | _ => false

noncomputable def binK (C : Cx) (cst : Bool) (op : BinOp) (t : TypeId) : F2 :=
  match intT C t, op with
  | true, .add => addK
  | true, .sub => subK
  | true, .lss => cmpK ltI
  | true, .leq => cmpK leI
  | true, .gtr => cmpK gtI
  | true, .geq => cmpK geI
  | _, op => u2K (binV C cst op t)

noncomputable def nilchkV (x : V) : Option V := match x with
  | .ptr b o => some (.ptr b o)
  | .fn f a c => some (.fn f a c)
  | _ => none
noncomputable def extV' (i : Nat) (x : V) : Option V := match x with
  | .tup l => l[i]?
  | _ => none

/-! ### turning -/
noncomputable def isV (mask t : Nat) : Bool := match Nat.land 1 (Nat.shiftRight mask t) with
  | 0 => false
  | _ + 1 => true
noncomputable def tOx (mask t : Nat) : Ox := match isV mask t with
  | false => .l t
  | true => .v (Pth.of (t + 1) t)
noncomputable def cVal (v : Value) : V := match v with
  | .bool b => .bool b
  | .int k n => .int k n
  | v => ofVal v
noncomputable def cOx (C : Cx) (mask : Nat) (x : Operand) : Ox := match x with
  | .tmp t => tOx mask t
  | .const v => .c (cVal v)
  | .global g => .c (match C.G.contains g with | true => .ptr g 0 | false => .bad)
  | .func f => .c (.fn f [] [])
noncomputable def cDst (mask : Nat) (d : Option Nat) : Dst := match d with
  | none => .no
  | some t => match isV mask t with
    | false => .l t
    | true => .v (Pth.of (t + 1) t)
noncomputable def cOxs (C : Cx) (mask : Nat) (l : List Operand) : List Ox := l.map (cOx C mask)
def optL : Option Operand → List Operand
  | none => []
  | some x => [x]

noncomputable def loadL (C : Cx) (t : TypeId) : Mem → List V → Option V := match undT C.P t, infT C.P t with
  | some d, some i => match aggD d with
    | true => fun m l => match l with | [x] => loadV m (some i.size) x | _ => none
    | false => fun m l => match l with | [x] => loadV m none x | _ => none
  | _, _ => fun _ _ => none
noncomputable def storeL (C : Cx) (t : TypeId) : Mem → List V → Option (V × Mem) := match infT C.P t with
  | some i => match Nat.blt 0 i.size with
    | true => fun m l => match l with | [a, x] => (match storeV m i.size a x with | some m' => some (.tup [], m') | none => none) | _ => none
    | false => fun _ _ => none
  | none => fun _ _ => none
noncomputable def allocL (C : Cx) (t : TypeId) (m : Mem) (l : List V) : Option (V × Mem) := match l with
  | [] => (zeroV C t).bind fun z => some (.ptr m.nx 0, newB m z)
  | _ => none
noncomputable def boxL (m : Mem) (l : List V) : Option (V × Mem) := match l with
  | [x] => match x.cells.all V.flat with | true => some (.ptr m.nx 0, newB m x.cells) | false => none
  | _ => none
noncomputable def strBL (m : Mem) (l : List V) : Option (V × Mem) := match l with
  | [.str n k] => some (.sl m.nx 0 k 1 none, newB m (bytesOf n 0 k))
  | _ => none
noncomputable def bStrL (m : Mem) (l : List V) : Option V := match l with
  | [x] => match szOne x with
    | true => (cellsOf m x).bind fun l => (numOf l).bind fun n => some (.str n l.length)
    | false => none
  | _ => none
noncomputable def convK (C : Cx) (mask : Nat) (s d : TypeId) (x : Operand) : K := match undT C.P s, undT C.P d with
  | some .string, some (.slice e) => match undT C.P e with
    | some (.int .u8) => .al strBL [cOx C mask x]
    | _ => .bad
  | some (.slice e), some .string => match undT C.P e with
    | some (.int .u8) => .ld bStrL [cOx C mask x]
    | _ => .bad
  | _, _ => .u1 (u1K (convV C s d)) (cOx C mask x)
noncomputable def mkslL (C : Cx) (t : TypeId) (m : Mem) (l : List V) : Option (V × Mem) := match l with
  | [a, b] => mksliceV C t a b m
  | _ => none
/-- operands of a slice expression, put back in their places -/
def slArgs (lo hi mx : Bool) : List V → Option (V × Option V × Option V × Option V) := match lo, hi, mx with
  | false, false, false => fun l => match l with | [x] => some (x, none, none, none) | _ => none
  | true, false, false => fun l => match l with | [x, a] => some (x, some a, none, none) | _ => none
  | false, true, false => fun l => match l with | [x, b] => some (x, none, some b, none) | _ => none
  | true, true, false => fun l => match l with | [x, a, b] => some (x, some a, some b, none) | _ => none
  | false, true, true => fun l => match l with | [x, b, c] => some (x, none, some b, some c) | _ => none
  | true, true, true => fun l => match l with | [x, a, b, c] => some (x, some a, some b, some c) | _ => none
  | _, _, _ => fun _ => none
noncomputable def sliceL (C : Cx) (t : TypeId) (lo hi mx : Bool) (l : List V) : Option V := match slArgs lo hi mx l with
  | some p => sliceV C t p.1 p.2.1 p.2.2.1 p.2.2.2
  | none => none
noncomputable def arrL (C : Cx) (t : TypeId) (lo hi mx : Bool) (m : Mem) (l : List V) : Option V := match slArgs lo hi mx l with
  | some p => arrV C m t p.1 p.2.1 p.2.2.1 p.2.2.2
  | none => none
noncomputable def sliceK (C : Cx) (mask : Nat) (t : TypeId) (x : Operand) (lo hi mx : Option Operand) : K := match isArr C.P t with
  | true => .ld (arrL C t lo.isSome hi.isSome mx.isSome) (cOxs C mask (x :: (optL lo ++ (optL hi ++ optL mx))))
  | false => .un (sliceL C t lo.isSome hi.isSome mx.isSome) (cOxs C mask (x :: (optL lo ++ (optL hi ++ optL mx))))
noncomputable def buildL (C : Cx) (t : TypeId) (is : List Nat) (l : List V) : Option V := buildV C t (is.zip l)
noncomputable def bsliceL (C : Cx) (t : TypeId) (n : Nat) (is : List Nat) (m : Mem) (l : List V) : Option (V × Mem) := bsliceV C t n (is.zip l) m
noncomputable def mkfnL (f n : Nat) (l : List V) : Option V := some (.fn f (l.take n) (l.drop n))
noncomputable def rangeL (C : Cx) (t : TypeId) (m : Mem) (l : List V) : Option (V × Mem) := match l with
  | [.str n k] => match undT C.P t with
    | some .string => some (.it m.nx, m.new (.iter n k 0))
    | _ => none
  | _ => none
noncomputable def nextL (m : Mem) (l : List V) : Option (V × Mem) := match l with
  | [x] => nextV m x
  | _ => none
noncomputable def bltL (C : Cx) (b : Builtin) (ats : List TypeId) (m : Mem) (l : List V) : Option (V × Mem) := builtinV C b ats l m
/-- builtins that look at nothing -/
def lenB : Option TypeDesc → V → Option V
  | some .string, .str _ l => some (.int .i64 (.ofNat l))
  | some (.slice _), .nils => some (.int .i64 0)
  | some (.slice _), .sl _ _ l _ _ => some (.int .i64 (.ofNat l))
  | _, _ => none
def capB : Option TypeDesc → V → Option V
  | some (.slice _), .nils => some (.int .i64 0)
  | some (.slice _), .sl _ _ _ _ (some c) => some (.int .i64 (.ofNat c))
  | _, _ => none
def minB : V → V → Option V
  | .int k x, .int _ y => some (.int k (match ltI y x with | true => y | false => x))
  | _, _ => none
def maxB : V → V → Option V
  | .int k x, .int _ y => some (.int k (match ltI x y with | true => y | false => x))
  | _, _ => none
noncomputable def pureB (C : Cx) (b : Builtin) (ats : List TypeId) (l : List V) : Option V := match b, ats, l with
  | .len, t :: _, [x] => lenB (undT C.P t) x
  | .cap, t :: _, [x] => capB (undT C.P t) x
  | .min, _, [x, y] => minB x y
  | .max, _, [x, y] => maxB x y
  | _, _, _ => none
noncomputable def callK (C : Cx) (mask : Nat) (c : Call) : K := match c.callee with
  | .value f => .call (cOx C mask f) (cOxs C mask c.args.toList)
  | .builtin .append => .ef (bltL C .append c.argTypes.toList) (cOxs C mask c.args.toList)
  | .builtin .copy => .ef (bltL C .copy c.argTypes.toList) (cOxs C mask c.args.toList)
  | .builtin b => .un (pureB C b c.argTypes.toList) (cOxs C mask c.args.toList)
  | _ => .bad
noncomputable def dfrK (C : Cx) (mask : Nat) (c : Call) : K := match c.callee with
  | .value f => .dfr (cOx C mask f) (cOxs C mask c.args.toList)
  | _ => .bad
noncomputable def mkfnK (C : Cx) (mask : Nat) (fn : Fn) (first cs : Array Operand) : K := match fn with
  | .func f => .un (mkfnL f first.toList.length) (cOxs C mask (first.toList ++ cs.toList))
  | _ => .bad

noncomputable def cK (op : Op) : Cx → Nat → K := match op with
  | .move x => fun C mask => .u1 mvK (cOx C mask x)
  | .assign x => fun C mask => .u1 mvK (cOx C mask x)
  | .pick c a b => fun C mask => .pick (cOx C mask c) (cOx C mask a) (cOx C mask b)
  | .alloc t => fun C _ => .al (allocL C t) []
  | .box _ x => fun C mask => .al boxL [cOx C mask x]
  | .build t ps => fun C mask => .un (buildL C t (ps.toList.map (·.1))) (cOxs C mask (ps.toList.map (·.2)))
  | .buildSlice t n ps => fun C mask => .al (bsliceL C t n (ps.toList.map (·.1))) (cOxs C mask (ps.toList.map (·.2)))
  | .load t x => fun C mask => .ld (loadL C t) [cOx C mask x]
  | .store t a x => fun C mask => .ef (storeL C t) [cOx C mask a, cOx C mask x]
  | .nilCheck x => fun C mask => .u1 (u1K nilchkV) (cOx C mask x)
  | .binOp op t x y _ => fun C mask => .u2 (binK C (isC x || isC y) op t) (cOx C mask x) (cOx C mask y)
  | .unOp op _ x => fun C mask => .u1 (u1K (unV op)) (cOx C mask x)
  | .convert s d x => fun C mask => convK C mask s d x
  | .makeInterface t x => fun C mask => .u1 (u1K (makeIfcV C t)) (cOx C mask x)
  | .makeFunc fn first cs => fun C mask => mkfnK C mask fn first cs
  | .makeSlice t l c => fun C mask => .al (mkslL C t) [cOx C mask l, cOx C mask c]
  | .slice t x lo hi mx => fun C mask => sliceK C mask t x lo hi mx
  | .fieldAddr t x f => fun C mask => .u1 (u1K fun x => faddrV C t x f) (cOx C mask x)
  | .field t x f => fun C mask => .u1 (u1K fun x => fieldV C t x f) (cOx C mask x)
  | .indexAddr t x i => fun C mask => .u2 (u2K (iaddrV C t)) (cOx C mask x) (cOx C mask i)
  | .index t x i => fun C mask => .u2 (u2K (indexV C t)) (cOx C mask x) (cOx C mask i)
  | .range t x => fun C mask => .al (rangeL C t) [cOx C mask x]
  | .next x true => fun C mask => .ef nextL [cOx C mask x]
  | .typeAssert x _ t ok => fun C mask => .u1 (u1K fun x => assertV C x t ok) (cOx C mask x)
  | .extract x i => fun C mask => .u1 (u1K (extV' i)) (cOx C mask x)
  | .call c => fun C mask => callK C mask c
  | .defer c => fun C mask => dfrK C mask c
  | _ => fun _ _ => .bad

/-- operations, one behind the other -/
inductive Ks where
  | nil
  | cons (d : Dst) (k : K) (pos : String) (r : Ks)
  | gd (c : Ox) (b : Bool) (d : Dst) (k : K) (pos : String) (r : Ks)

noncomputable def gOf (mask : Nat) (ops : List Oper) (j : Nat) : Ox := match ops[j]? with
  | some o => match o.dst with
    | some t => tOx mask t
    | none => .c .bad
  | none => .c .bad
noncomputable def cKs (C : Cx) (mask : Nat) (ops : List Oper) (l : List Oper) : Ks := List.rec (motive := fun _ => Ks) .nil (fun o _ ih => match o.guard with
    | none => .cons (cDst mask o.dst) (cK o.op C mask) o.pos ih
    | some (j, b) => .gd (gOf mask ops j) b (cDst mask o.dst) (cK o.op C mask) o.pos ih) l

/-! ### running -/
noncomputable def rU1 (f : F1) (x : Ox) (_ : Cx) (s : Fr) (k : V → Ans) (_ : V → Mem → Ans) (_ : V → List V → Ans) (e : Ans) : Ans := f (ox x s) k e
noncomputable def rU2 (f : F2) (x y : Ox) (_ : Cx) (s : Fr) (k : V → Ans) (_ : V → Mem → Ans) (_ : V → List V → Ans) (e : Ans) : Ans := f (ox x s) (ox y s) k e
noncomputable def rPick (c x y : Ox) (_ : Cx) (s : Fr) (k : V → Ans) (_ : V → Mem → Ans) (_ : V → List V → Ans) (e : Ans) : Ans := match ox c s with
  | .bool true => k (ox x s)
  | .bool false => k (ox y s)
  | _ => e
noncomputable def rUn (f : List V → Option V) (xs : List Ox) (_ : Cx) (s : Fr) (k : V → Ans) (_ : V → Mem → Ans) (_ : V → List V → Ans) (e : Ans) : Ans := retO (f (oxs xs s)) k e
noncomputable def rLd (f : Mem → List V → Option V) (xs : List Ox) (_ : Cx) (s : Fr) (k : V → Ans) (_ : V → Mem → Ans) (_ : V → List V → Ans) (e : Ans) : Ans := retO (f s.m (oxs xs s)) k e
noncomputable def rW (f : Mem → List V → Option (V × Mem)) (xs : List Ox) (_ : Cx) (s : Fr) (_ : V → Ans) (km : V → Mem → Ans) (_ : V → List V → Ans) (e : Ans) : Ans := match f s.m (oxs xs s) with
  | some (v, m) => fV v fun v => km v m
  | none => e
noncomputable def rCall (f : Ox) (xs : List Ox) (C : Cx) (s : Fr) (_ : V → Ans) (km : V → Mem → Ans) (_ : V → List V → Ans) (e : Ans) : Ans := match ox f s with
  | .fn g first caps => match C.call g (first ++ (oxs xs s ++ caps)) s.m with
    | .ok v m => fV v fun v => km v m
    | .er f p x => .er f p x
  | _ => e
noncomputable def rDfr (f : Ox) (xs : List Ox) (_ : Cx) (s : Fr) (_ : V → Ans) (_ : V → Mem → Ans) (kd : V → List V → Ans) (e : Ans) : Ans := match ox f s with
  | .fn g a c => kd (.fn g a c) (oxs xs s)
  | _ => e
noncomputable def rBad (_ : Cx) (_ : Fr) (_ : V → Ans) (_ : V → Mem → Ans) (_ : V → List V → Ans) (e : Ans) : Ans := e
noncomputable def runK (k : K) : Cx → Fr → (V → Ans) → (V → Mem → Ans) → (V → List V → Ans) → Ans → Ans :=
  K.rec (motive := fun _ => Cx → Fr → (V → Ans) → (V → Mem → Ans) → (V → List V → Ans) → Ans → Ans) rU1 rU2 rPick rUn rLd rW rW rCall rDfr rBad k

noncomputable def setV (d : Dst) (s : Fr) (k : Fr → Ans) (v : V) : Ans := k (put d s v)
noncomputable def setM (d : Dst) (s : Fr) (k : Fr → Ans) (v : V) (m : Mem) : Ans := k (put d ⟨s.tr, s.lc, s.df, m⟩ v)
noncomputable def setD (d : Dst) (s : Fr) (k : Fr → Ans) (f : V) (xs : List V) : Ans := k (put d ⟨s.tr, s.lc, (f, xs) :: s.df, s.m⟩ (.tup []))
/-- one operation, and then -/
noncomputable def one (d : Dst) (k : K) (pos : String) (C : Cx) (fn : Nat) (s : Fr) (c : Fr → Ans) : Ans := runK k C s (setV d s c) (setM d s c) (setD d s c) (.er fn pos [])
noncomputable def oneG (g : Ox) (b : Bool) (d : Dst) (k : K) (pos : String) (C : Cx) (fn : Nat) (s : Fr) (c : Fr → Ans) : Ans := match ox g s with
  | .bool x => match x == b with
    | true => one d k pos C fn s c
    | false => c (put d s (.tup []))
  | .tup [] => c (put d s (.tup []))
  | _ => .er fn pos []
noncomputable def kNil (_ : Cx) (_ : Nat) (s : Fr) (c : Fr → Ans) : Ans := c s
noncomputable def kCons (d : Dst) (k : K) (pos : String) (ih : Cx → Nat → Fr → (Fr → Ans) → Ans) (C : Cx) (fn : Nat) (s : Fr) (c : Fr → Ans) : Ans := one d k pos C fn s fun s => ih C fn s c
noncomputable def kGd (g : Ox) (b : Bool) (d : Dst) (k : K) (pos : String) (ih : Cx → Nat → Fr → (Fr → Ans) → Ans) (C : Cx) (fn : Nat) (s : Fr) (c : Fr → Ans) : Ans := oneG g b d k pos C fn s fun s => ih C fn s c
noncomputable def runKs (l : Ks) : Cx → Nat → Fr → (Fr → Ans) → Ans :=
  Ks.rec (motive := fun _ => Cx → Nat → Fr → (Fr → Ans) → Ans) kNil (fun d k pos _ ih => kCons d k pos ih) (fun g b d k pos _ ih => kGd g b d k pos ih) l

noncomputable def clr (s : Fr) : Fr := ⟨s.tr, .nil, s.df, s.m⟩


end Go.Cx

namespace Go.Cx
variable {E : Ms} {β β' : Be} {w w0 : World} {m m' : Mem} {P : Program} {O : Nat → Prop} {C : Cx} {mask : Nat}

/-! ### paths -/
theorem Pth.of_zero (f : Nat) : Pth.of f 0 = .e := by cases f <;> rfl
theorem Pth.of_succ (f n : Nat) : Pth.of (f + 1) (n + 1) = if n % 2 = 0 then .l (Pth.of f (n / 2)) else .r (Pth.of f (n / 2)) := by
  show Nat.rec (motive := fun _ => Pth) (.l (Pth.of f (n / 2))) (fun _ _ => .r (Pth.of f (n / 2))) (n % 2) = _
  cases n % 2 with
  | zero => rfl
  | succ k => simp
theorem gp_of : ∀ (f n : Nat) (t : Tr V), n < f → gp (Pth.of f n) t = Tr.get .bad t n
  | 0, n, t, h => by omega
  | f + 1, 0, t, _ => by cases t <;> rfl
  | f + 1, n + 1, t, h => by
    rw [Pth.of_succ]
    cases t with
    | lf =>
      split
      · show V.bad = _; rfl
      · show V.bad = _; rfl
    | nd v l r =>
      rw [Tr.get_nd]
      split
      · exact gp_of f (n / 2) l (by omega)
      · exact gp_of f (n / 2) r (by omega)
theorem sp_of (x : V) : ∀ (f n : Nat) (t : Tr V), n < f → sp x (Pth.of f n) t = Tr.setF .bad x f t n
  | 0, n, t, h => by omega
  | f + 1, 0, t, _ => by
    cases t with
    | lf => rw [Tr.setF_lf0]; rfl
    | nd v l r => rw [Tr.setF_nd0]; rfl
  | f + 1, n + 1, t, h => by
    rw [Pth.of_succ]
    cases t with
    | lf =>
      rw [Tr.setF_lf]
      split
      · show Tr.nd V.bad (sp x (Pth.of f (n / 2)) .lf) .lf = _
        rw [sp_of x f (n / 2) .lf (by omega)]
      · show Tr.nd V.bad .lf (sp x (Pth.of f (n / 2)) .lf) = _
        rw [sp_of x f (n / 2) .lf (by omega)]
    | nd v l r =>
      rw [Tr.setF_nd]
      split
      · show Tr.nd v (sp x (Pth.of f (n / 2)) l) r = _
        rw [sp_of x f (n / 2) l (by omega)]
      · show Tr.nd v l (sp x (Pth.of f (n / 2)) r) = _
        rw [sp_of x f (n / 2) r (by omega)]
theorem gp_sp (x : V) (n k : Nat) (t : Tr V) : gp (Pth.of (k + 1) k) (sp x (Pth.of (n + 1) n) t) = if k = n then x else gp (Pth.of (k + 1) k) t := by
  rw [gp_of _ _ _ (by omega), sp_of _ _ _ _ (by omega), gp_of _ _ _ (by omega), Tr.get_setF _ _ _ _ _ _ (by omega)]
theorem lget_cons (t : Nat) (v : V) (r : Lc) (n : Nat) : lget (.cons t v r) n = if n = t then v else lget r n := by
  show Bool.rec (motive := fun _ => V) (lget r n) v (Nat.beq t n) = _
  by_cases e : n = t
  · subst e; rw [show Nat.beq n n = true from by simp, if_pos rfl]
  · rw [show Nat.beq t n = false from by
      cases h : Nat.beq t n with
      | false => rfl
      | true => exact absurd (Nat.eq_of_beq_eq_true h).symm e, if_neg e]

/-- a temporary of a frame -/
noncomputable def fget (mask : Nat) (s : Fr) (t : Nat) : V := ox (tOx mask t) s
theorem fget_put (s : Fr) (d : Nat) (v : V) (t : Nat) : fget mask (put (cDst mask (some d)) s v) t = if t = d then v else fget mask s t := by
  simp only [fget, tOx, cDst]
  by_cases ht : isV mask t = true
  · simp only [ht]
    by_cases hd : isV mask d = true
    · simp only [hd]
      show gp _ (sp v _ s.tr) = _
      rw [gp_sp]
      rfl
    · have hd : isV mask d = false := by simpa using hd
      simp only [hd]
      have : t ≠ d := by rintro rfl; rw [ht] at hd; cases hd
      rw [if_neg this]; rfl
  · have ht : isV mask t = false := by simpa using ht
    simp only [ht]
    by_cases hd : isV mask d = true
    · simp only [hd]
      have : t ≠ d := by rintro rfl; rw [hd] at ht; cases ht
      rw [if_neg this]; rfl
    · have hd : isV mask d = false := by simpa using hd
      simp only [hd]
      show lget (.cons d v s.lc) t = _
      rw [lget_cons]; rfl
theorem put_m (d : Dst) (s : Fr) (v : V) : (put d s v).m = s.m := by cases d <;> rfl
theorem put_df (d : Dst) (s : Fr) (v : V) : (put d s v).df = s.df := by cases d <;> rfl
theorem fget_m (s : Fr) (m : Mem) (df) (t : Nat) : fget mask ⟨s.tr, s.lc, df, m⟩ t = fget mask s t := by
  unfold fget tOx
  cases isV mask t <;> rfl
theorem fget_clr (s : Fr) (t : Nat) : fget mask (clr s) t = fget mask s t ∨ fget mask (clr s) t = .bad := by
  unfold fget tOx clr
  cases isV mask t
  · exact .inr rfl
  · exact .inl rfl

/-- temporaries are as the machine's -/
def FrOk (E : Ms) (β : Be) (mask : Nat) (s : Fr) (a : Act) : Prop := ∀ t, R E β (fget mask s t) (a.tmps.getD t undef)

theorem cVal_eq (v : Value) : R E β (cVal v) v := by
  unfold cVal
  split
  · exact .bool _
  · exact .int _ _
  · exact ofVal_spec v

theorem ox_spec {s : Fr} {a : Act} (hg : GlOk C β) (hf : FrOk E β mask s a) (x : Operand) : R E β (ox (cOx C mask x) s) (a.eval x) := by
  cases x with
  | tmp t => exact hf t
  | const v => exact cVal_eq v
  | global g =>
    show R E β (match C.G.contains g with | true => .ptr g 0 | false => .bad) _
    split
    · rename_i h
      obtain ⟨n, hn⟩ := hg g h
      exact .ptr g 0 ⟨g, 0, n⟩ hn
    · exact .bad _
  | func f => exact .fn f [] [] #[] #[] rfl rfl (fun j hj => by simp at hj) (fun j hj => by simp at hj)
theorem oxs_cons (o : Ox) (l : List Ox) (s : Fr) : oxs (o :: l) s = ox o s :: oxs l s := rfl
theorem oxs_spec {s : Fr} {a : Act} (hg : GlOk C β) (hf : FrOk E β mask s a) : ∀ (xs : List Operand), Rl E β (oxs (cOxs C mask xs) s) (xs.map a.eval)
  | [] => .nil
  | x :: r => .cons (ox_spec hg hf x) (oxs_spec hg hf r)
theorem oxs_one {s : Fr} (x : Operand) : oxs [cOx C mask x] s = [ox (cOx C mask x) s] := rfl

/-- a deferred call -/
inductive Df1 (E : Ms) (β : Be) : V × List V → Deferred → Prop where
  | mk (g : Nat) (first caps : List V) (us vs : Array Value) (xs : List V) (ws : Array Value) (h1 : Rl E β first us.toList) (h2 : Rl E β caps vs.toList) (h3 : Rl E β xs ws.toList) :
      Df1 E β (.fn g first caps, xs) { target := .fn (.func g) vs, args := us ++ ws }
inductive DfOk (E : Ms) (β : Be) : List (V × List V) → List Deferred → Prop where
  | nil : DfOk E β [] []
  | cons {x : V × List V} {d : Deferred} {l : List (V × List V)} {ds : List Deferred} (h : Df1 E β x d) (k : DfOk E β l ds) : DfOk E β (x :: l) (d :: ds)
theorem Df1.mono (h : Le β β') {x : V × List V} {d : Deferred} (k : Df1 E β x d) : Df1 E β' x d := by
  cases k with | mk g f c us vs xs ws h1 h2 h3 => exact .mk g f c us vs xs ws (h1.mono h) (h2.mono h) (h3.mono h)
theorem DfOk.mono (h : Le β β') {l : List (V × List V)} {ds : List Deferred} (k : DfOk E β l ds) : DfOk E β' l ds := by
  induction k with
  | nil => exact .nil
  | cons h1 _ ih => exact .cons (h1.mono h) ih
theorem FrOk.mono (h : Le β β') {s : Fr} {a : Act} (k : FrOk E β mask s a) : FrOk E β' mask s a := fun t => (k t).mono h
theorem GlOk.mono (h : Le β β') (k : GlOk C β) : GlOk C β' := fun g hg => by
  obtain ⟨n, hn⟩ := k g hg
  exact ⟨n, h g _ hn⟩

theorem FrOk.put {s : Fr} {a : Act} (hf : FrOk E β mask s a) {N : Nat} (hN : a.tmps.size = N) {dst : Option Nat} (hlt : ∀ d, dst = some d → d < N) {v : V} {x : Value} (hv : R E β v x) : FrOk E β mask (Cx.put (cDst mask dst) s v) (a.put dst x) := by
  cases dst with
  | none => exact hf
  | some d =>
    have hd := hlt d rfl
    intro t
    rw [fget_put]
    simp only [Act.put]
    by_cases e : t = d
    · subst e
      rw [if_pos rfl]
      have : (a.tmps.setIfInBounds t x).getD t undef = x := by simp [Array.getD_eq_getD_getElem?, hN, hd]
      rw [this]; exact hv
    · rw [if_neg e]
      have : (a.tmps.setIfInBounds d x).getD t undef = a.tmps.getD t undef := by
        simp [Array.getD_eq_getD_getElem?, Array.getElem?_setIfInBounds_ne (Ne.symm e)]
      rw [this]; exact hf t
theorem FrOk.clr {s : Fr} {a : Act} (hf : FrOk E β mask s a) : FrOk E β mask (Cx.clr s) a := fun t => by
  rcases fget_clr (mask := mask) s t with h | h
  · rw [h]; exact hf t
  · rw [h]; exact .bad _
theorem FrOk.mem {s : Fr} {a : Act} (hf : FrOk E β mask s a) (m : Mem) (df) : FrOk E β mask ⟨s.tr, s.lc, df, m⟩ a := fun t => by rw [fget_m]; exact hf t

/-- what came of an operation -/
inductive Outc (C : Cx) (E : Ms) (w0 : World) (O : Nat → Prop) (β : Be) (s : Fr) (w : World) (run : World → Result Next) (kv : V → Ans) (km : V → Mem → Ans) (kd : V → List V → Ans) (r : V) (mr : Mem) : Prop where
  | pure (v : V) (x : Value) (hr : ∀ w, run w = .ok (.value x) w) (hR : R E β v x) (hk : kv v = .ok r mr)
  | ld (v : V) (x : Value) (hr : run w = .ok (.value x) w) (hR : R E β v x) (hk : kv v = .ok r mr)
  | mem (v : V) (m' : Mem) (x : Value) (w' : World) (β' : Be) (hr : run w = .ok (.value x) w' ∨ (run w = .ok .skip w' ∧ x = undef)) (hg : Good E w0 O β s.m w β' m' w') (hR : R E β' v x) (hk : km v m' = .ok r mr)
  | call (g : Nat) (xs : List V) (vs : List Value) (v : V) (m' : Mem) (hr : ∀ w, run w = (callFunc g vs.toArray).run C.P w) (hv : Rl E β xs vs) (hc : C.call g xs s.m = .ok v m') (hk : km v m' = .ok r mr)
  | dfr (f : V) (xs : List V) (d : Deferred) (hr : ∀ w, run w = .ok (.defer d) w) (hd : Df1 E β (f, xs) d) (hk : kd f xs = .ok r mr)

/-! ### in continuations -/
theorem retO_ok {o : Option V} {k : V → Ans} {fn : Nat} {p : String} {l : List V} {r : V} {mr : Mem} (h : retO o k (.er fn p l) = .ok r mr) : ∃ v, o = some v ∧ k v = .ok r mr := by
  cases o with
  | none => cases h
  | some v =>
    have : fV v k = .ok r mr := h
    rw [fV_eq] at this
    exact ⟨v, rfl, this⟩
theorem toI2_ok {x y : V} {f : IntKind → Int → Int → Ans} {fn : Nat} {p : String} {l : List V} {r : V} {mr : Mem} (h : toI2 x y f (.er fn p l) = .ok r mr) : ∃ k a b, x = .int k a ∧ y = .int k b ∧ f k a b = .ok r mr := by
  unfold toI2 at h
  split at h
  · split at h
    · split at h
      · rename_i hk
        have := kEq_spec hk; subst this
        exact ⟨_, _, _, rfl, rfl, h⟩
      · cases h
    · cases h
  · cases h

theorem binK_ok {cst : Bool} {op : BinOp} {t : TypeId} {x y : V} {k : V → Ans} {fn : Nat} {p : String} {l : List V} {r : V} {mr : Mem} (h : binK C cst op t x y k (.er fn p l) = .ok r mr) : ∃ v, binV C cst op t x y = some v ∧ k v = .ok r mr := by
  have key : ∀ {kd : IntKind}, kEq kd kd = true := fun {kd} => by cases kd <;> rfl
  unfold binK at h
  cases hI : intT C t with
  | false => rw [hI] at h; cases op <;> exact retO_ok h
  | true =>
    rw [hI] at h
    cases op
    case add =>
      obtain ⟨d, a, b, rfl, rfl, h9⟩ := toI2_ok h
      simp only [addI, fI_eq] at h9
      exact ⟨_, by simp only [binV, key, intOp], h9⟩
    case sub =>
      obtain ⟨d, a, b, rfl, rfl, h9⟩ := toI2_ok h
      simp only [subI, fI_eq] at h9
      exact ⟨_, by simp only [binV, key, intOp], h9⟩
    case lss =>
      obtain ⟨d, a, b, rfl, rfl, h9⟩ := toI2_ok h
      simp only [cmpI, fB_eq] at h9
      exact ⟨_, by simp only [binV, key, intOp], h9⟩
    case leq =>
      obtain ⟨d, a, b, rfl, rfl, h9⟩ := toI2_ok h
      simp only [cmpI, fB_eq, leI] at h9
      exact ⟨_, by simp only [binV, key, intOp], h9⟩
    case gtr =>
      obtain ⟨d, a, b, rfl, rfl, h9⟩ := toI2_ok h
      simp only [cmpI, fB_eq, gtI] at h9
      exact ⟨_, by simp only [binV, key, intOp], h9⟩
    case geq =>
      obtain ⟨d, a, b, rfl, rfl, h9⟩ := toI2_ok h
      simp only [cmpI, fB_eq, geI] at h9
      exact ⟨_, by simp only [binV, key, intOp], h9⟩
    all_goals exact retO_ok h

end Go.Cx

namespace Go.Cx
variable {E : Ms} {β β' : Be} {w w0 : World} {m m' : Mem} {P : Program} {O : Nat → Prop} {C : Cx} {mask : Nat}

theorem oxs_one_inv {s : Fr} {a : Act} (hg : GlOk C β) (hf : FrOk E β mask s a) (x : Operand) : Rl E β [ox (cOx C mask x) s] [a.eval x] := .cons (ox_spec hg hf x) .nil

theorem run_builtin (ρ : Operand → Value) (b : Builtin) (args : Array Operand) (ats : Array TypeId) (dst : Option Tmp) (ty : TypeId) (pos : String) (after : Array Edge) (gd : Option (Nat × Bool)) :
    ∃ cs, (execOp ρ { dst, op := .call { callee := .builtin b, args, argTypes := ats }, type := ty, pos, after, guard := gd }) = builtin b ats ty cs (args.map ρ) := by
  refine ⟨args.map (fun | .const _ => true | _ => false), ?_⟩
  simp only [execOp, resolve, pure_bind, invoke]
  rfl

theorem zip_R {s : Fr} {a : Act} (hg : GlOk C β) (hf : FrOk E β mask s a) : ∀ (ps : List (Nat × Operand)),
    ((ps.map (·.1)).zip (oxs (cOxs C mask (ps.map (·.2))) s)).length = (ps.map fun p => (p.1, a.eval p.2)).length ∧
    ∀ k (h : k < ((ps.map (·.1)).zip (oxs (cOxs C mask (ps.map (·.2))) s)).length) (h' : k < (ps.map fun p => (p.1, a.eval p.2)).length),
      ((ps.map (·.1)).zip (oxs (cOxs C mask (ps.map (·.2))) s))[k].1 = (ps.map fun p => (p.1, a.eval p.2))[k].1 ∧ R E β ((ps.map (·.1)).zip (oxs (cOxs C mask (ps.map (·.2))) s))[k].2 (ps.map fun p => (p.1, a.eval p.2))[k].2
  | [] => ⟨rfl, fun k h => by simp [cOxs, oxs] at h⟩
  | p :: r => by
    obtain ⟨h1, h2⟩ := zip_R hg hf r
    have e : ((p :: r).map (·.1)).zip (oxs (cOxs C mask ((p :: r).map (·.2))) s) = (p.1, ox (cOx C mask p.2) s) :: (r.map (·.1)).zip (oxs (cOxs C mask (r.map (·.2))) s) := rfl
    rw [e]
    refine ⟨by simp only [List.length_cons, h1, List.map_cons], fun k h h' => ?_⟩
    cases k with
    | zero => exact ⟨rfl, ox_spec hg hf _⟩
    | succ k => exact h2 k (by simpa using h) (by simpa using h')

theorem ro_spec {s : Fr} {a : Act} (hg : GlOk C β) (hf : FrOk E β mask s a) (x : Operand) : Ro E β (some (ox (cOx C mask x) s)) (some (a.eval x)) := .some _ _ (ox_spec hg hf x)

theorem slArgs_spec {s : Fr} {a : Act} (hg : GlOk C β) (hf : FrOk E β mask s a) {x : Operand} {lo hi mx : Option Operand} {p : V × Option V × Option V × Option V}
    (h : slArgs lo.isSome hi.isSome mx.isSome (oxs (cOxs C mask (x :: (optL lo ++ (optL hi ++ optL mx)))) s) = some p) :
    R E β p.1 (a.eval x) ∧ Ro E β p.2.1 (lo.map a.eval) ∧ Ro E β p.2.2.1 (hi.map a.eval) ∧ Ro E β p.2.2.2 (mx.map a.eval) := by
  cases lo <;> cases hi <;> cases mx <;> simp only [Option.isSome, optL, List.nil_append, List.cons_append, cOxs, List.map_cons, List.map_nil, oxs_cons, slArgs] at h <;> first | (cases h; done) | skip
  all_goals
    cases h
    first
      | exact ⟨ox_spec hg hf _, .none, .none, .none⟩
      | exact ⟨ox_spec hg hf _, ro_spec hg hf _, .none, .none⟩
      | exact ⟨ox_spec hg hf _, .none, ro_spec hg hf _, .none⟩
      | exact ⟨ox_spec hg hf _, ro_spec hg hf _, ro_spec hg hf _, .none⟩
      | exact ⟨ox_spec hg hf _, .none, ro_spec hg hf _, ro_spec hg hf _⟩
      | exact ⟨ox_spec hg hf _, ro_spec hg hf _, ro_spec hg hf _, ro_spec hg hf _⟩

theorem rW_ok {f : Mem → List V → Option (V × Mem)} {xs : List Ox} {C : Cx} {s : Fr} {k1 : V → Ans} {km : V → Mem → Ans} {kd : V → List V → Ans} {fn : Nat} {p : String} {l : List V} {r : V} {mr : Mem}
    (h : rW f xs C s k1 km kd (.er fn p l) = .ok r mr) : ∃ v m', f s.m (oxs xs s) = some (v, m') ∧ km v m' = .ok r mr := by
  unfold rW at h
  split at h
  · rename_i v m' he
    rw [fV_eq] at h
    exact ⟨v, m', he, h⟩
  · cases h

/-- An operation, turned and run: what it comes to. -/
theorem K_sound (hm : MaskOk C E) {s : Fr} {a : Act} (h : Inv E w0 O β s.m w) (hg : GlOk C β) (hf : FrOk E β mask s a) (o : Oper) {kv : V → Ans} {km : V → Mem → Ans} {kd : V → List V → Ans} {fn : Nat} {p : String} {r : V} {mr : Mem}
    (hs : runK (cK o.op C mask) C s kv km kd (.er fn p []) = .ok r mr) : Outc C E w0 O β s w (fun w => (execOp a.eval o).run C.P w) kv km kd r mr := by
  obtain ⟨dst, op, ty, pos, after, gd⟩ := o
  have runv : ∀ (s : Sem Value) (w : World), (do pure (Next.value (← s)) : Sem Next).run C.P w = (s.run C.P w).andThen fun v w' => .ok (.value v) w' := fun s w => by simp only [Sem.run_bind, Sem.run_pure]
  have rx := ox_spec (C := C) hg hf
  cases op with
  | move x => exact .pure _ _ (fun w => rfl) (rx x) hs
  | assign x => exact .pure _ _ (fun w => rfl) (rx x) hs
  | pick c x y =>
    have hs : rPick (cOx C mask c) (cOx C mask x) (cOx C mask y) C s kv km kd (.er fn p []) = .ok r mr := hs
    have hc := rx c
    unfold rPick at hs
    split at hs
    · rename_i he
      rw [he] at hc
      exact .pure _ (a.eval x) (fun w => by simp only [execOp, Sem.run_bind, hc.bool_inv, asBool, Sem.run_pure, Result.andThen_ok, if_true]) (rx x) hs
    · rename_i he
      rw [he] at hc
      exact .pure _ (a.eval y) (fun w => by simp only [execOp, Sem.run_bind, hc.bool_inv, asBool, Sem.run_pure, Result.andThen_ok, Bool.false_eq_true, if_false]) (rx y) hs
    · cases hs
  | alloc t =>
    obtain ⟨v, m', he, hk⟩ := rW_ok (C := C) (k1 := kv) (kd := kd) hs
    have he : (zeroV C t).bind (fun z => some (V.ptr s.m.nx 0, newB s.m z)) = some (v, m') := he
    simp only [Option.bind_eq_some_iff] at he
    obtain ⟨z, hz, he⟩ := he; cases he
    obtain ⟨x, w', β', h1, h2, h3⟩ := alloc_run h hz
    exact .mem _ _ x w' β' (.inl (by simp only [execOp, runv, h1, Result.andThen_ok])) h2 h3 hk
  | box t x =>
    obtain ⟨v, m', he, hk⟩ := rW_ok (C := C) (k1 := kv) (kd := kd) hs
    have he : boxL s.m [ox (cOx C mask x) s] = some (v, m') := he
    simp only [boxL] at he
    split at he
    · rename_i hfl
      cases he
      obtain ⟨u, w', β', h1, h2, h3⟩ := box_run (P := C.P) h t (rx x) hfl
      exact .mem _ _ u w' β' (.inl (by simp only [execOp, runv, h1, Result.andThen_ok])) h2 h3 hk
    · cases he
  | build t ps =>
    obtain ⟨v, he, hk⟩ := retO_ok hs
    obtain ⟨z1, z2⟩ := zip_R (C := C) hg hf ps.toList
    obtain ⟨x, h1, h2⟩ := buildV_run he z1 z2
    have e : (ps.toList.map fun p => (p.1, a.eval p.2)).toArray = ps.map fun (p : Nat × Operand) => (p.1, a.eval p.2) := by
      apply Array.ext'; simp
    rw [e] at h1
    exact .pure v x (fun w => by simp only [execOp, runv]; rw [show (ps.map fun (i, x) => (i, a.eval x)) = ps.map fun (p : Nat × Operand) => (p.1, a.eval p.2) from rfl, h1]; rfl) h2 hk
  | buildSlice t n ps =>
    obtain ⟨v, m', he, hk⟩ := rW_ok (C := C) (k1 := kv) (kd := kd) hs
    obtain ⟨z1, z2⟩ := zip_R (C := C) hg hf ps.toList
    obtain ⟨x, w', β', h1, h2, h3⟩ := bsliceV_run h he z1 z2
    have e : (ps.toList.map fun p => (p.1, a.eval p.2)).toArray = ps.map fun (p : Nat × Operand) => (p.1, a.eval p.2) := by
      apply Array.ext'; simp
    rw [e] at h1
    exact .mem _ _ x w' β' (.inl (by simp only [execOp, runv]; rw [show (ps.map fun (i, x) => (i, a.eval x)) = ps.map fun (p : Nat × Operand) => (p.1, a.eval p.2) from rfl, h1]; rfl)) h2 h3 hk
  | load t x =>
    obtain ⟨v, he, hk⟩ := retO_ok hs
    have he : loadL C t s.m [ox (cOx C mask x) s] = some v := he
    cases hu : C.P.underlying t with
    | none => simp only [loadL, undT_eq, hu] at he; cases he
    | some d =>
      cases hi : C.P.info? t with
      | none => simp only [loadL, undT_eq, infT_eq, hu, hi] at he; cases he
      | some i =>
        have he' : loadV s.m (match aggD d with | true => some i.size | false => none) (ox (cOx C mask x) s) = some v := by
          simp only [loadL, undT_eq, infT_eq, hu, hi] at he
          cases hd : aggD d <;> rw [hd] at he <;> exact he
        obtain ⟨y, h1, h2⟩ := loadV_run (P := C.P) h hu hi he' (rx x)
        exact .ld v y (by simp only [execOp, runv, h1, Result.andThen_ok]) h2 hk
  | store t x y =>
    obtain ⟨v, m', he, hk⟩ := rW_ok (C := C) (k1 := kv) (kd := kd) hs
    have he : storeL C t s.m [ox (cOx C mask x) s, ox (cOx C mask y) s] = some (v, m') := he
    cases hi : C.P.info? t with
    | none => simp only [storeL, infT_eq, hi] at he; cases he
    | some i =>
      simp only [storeL, infT_eq, hi] at he
      cases hb : Nat.blt 0 i.size with
      | false => rw [hb] at he; cases he
      | true =>
        rw [hb] at he
        have he' : (match storeV s.m i.size (ox (cOx C mask x) s) (ox (cOx C mask y) s) with | some m' => some (V.tup [], m') | none => none) = some (v, m') := he
        split at he'
        · rename_i m2 hm2
          cases he'
          obtain ⟨w', h1, h2⟩ := storeV_run (P := C.P) h hi hm2 (rx x) (rx y)
          exact .mem _ _ undef w' β (.inr ⟨by simp only [execOp, Sem.run_bind, h1, Result.andThen_ok, Sem.run_pure], rfl⟩) h2 (.tup [] #[] rfl (fun j hj => by simp at hj)) hk
        · cases he'
  | nilCheck x =>
    obtain ⟨v, he, hk⟩ := retO_ok hs
    have hr := rx x
    generalize ox (cOx C mask x) s = u at he hr
    cases u <;> simp only [nilchkV] at he <;> first | (cases he; done) | skip
    all_goals cases he
    · refine .pure _ _ (fun w => ?_) hr hk
      generalize hv : a.eval x = va at hr
      cases hr
      simp only [execOp, hv]; rfl
    · refine .pure _ _ (fun w => ?_) hr hk
      generalize hv : a.eval x = va at hr
      cases hr
      simp only [execOp, hv]; rfl
  | binOp op t x y yt =>
    obtain ⟨v, he, hk⟩ := binK_ok (show binK C (isC x || isC y) op t (ox (cOx C mask x) s) (ox (cOx C mask y) s) kv (.er fn p []) = .ok r mr from hs)
    obtain ⟨u, h1, h2⟩ := binV_run hm x y he (rx x) (rx y)
    exact .pure v u (fun w => by simp only [execOp, runv, h1, Result.andThen_ok]) h2 hk
  | unOp op t x =>
    obtain ⟨v, he, hk⟩ := retO_ok hs
    obtain ⟨u, h1, h2⟩ := unV_run (P := C.P) he (rx x)
    exact .pure v u (fun w => by simp only [execOp, runv, h1, Result.andThen_ok]) h2 hk
  | convert sr d x =>
    have hs : runK (convK C mask sr d x) C s kv km kd (.er fn p []) = .ok r mr := hs
    unfold convK at hs
    simp only [undT_eq] at hs
    split at hs
    · rename_i e h1 h2
      split at hs
      · rename_i h3
        obtain ⟨v, m', he, hk⟩ := rW_ok (C := C) (k1 := kv) (kd := kd) hs
        have he : strBL s.m [ox (cOx C mask x) s] = some (v, m') := he
        have hr := rx x
        generalize hxx : ox (cOx C mask x) s = u at he hr
        cases u <;> simp only [strBL] at he <;> first | (cases he; done) | skip
        cases he
        generalize hv : a.eval x = va at hr
        cases hr with | str _ _ ss hst =>
        obtain ⟨y, w', β', g1, g2, g3⟩ := strBytes_run (P := C.P) h e hst
        exact .mem _ _ y w' β' (.inl (by simp only [execOp, runv, hv, convert, Sem.run_bind, run_under h1, run_under h2, run_under h3, Result.andThen_ok, g1])) g2 g3 hk
      · cases hs
    · rename_i e h1 h2
      split at hs
      · rename_i h3
        obtain ⟨v, he, hk⟩ := retO_ok hs
        have he : bStrL s.m [ox (cOx C mask x) s] = some v := he
        simp only [bStrL] at he
        split at he
        · rename_i hz
          simp only [Option.bind_eq_some_iff] at he
          obtain ⟨l, hl, n, hn, he⟩ := he; cases he
          obtain ⟨y, g1, g2⟩ := bytesStr_run (P := C.P) h hz hl hn (rx x)
          refine .ld _ y ?_ g2 hk
          have hsl : ∃ ad ln cp, a.eval x = .slice ad ln cp := by
            have hr := rx x
            generalize ox (cOx C mask x) s = u at hz hr
            generalize a.eval x = va at hr
            cases u <;> simp only [szOne] at hz <;> first | (cases hz; done) | skip
            · cases hr; exact ⟨_, _, _, rfl⟩
            · cases hr; exact ⟨_, _, _, rfl⟩
          obtain ⟨ad, ln, cp, hv⟩ := hsl
          rw [hv] at g1
          simp only [execOp, runv, hv, convert, Sem.run_bind, run_under h1, run_under h2, run_under h3, Result.andThen_ok, g1]
        · cases he
      · cases hs
    · obtain ⟨v, he, hk⟩ := retO_ok hs
      obtain ⟨u, h1, h2⟩ := convV_run he (rx x)
      exact .pure v u (fun w => by simp only [execOp, runv, h1, Result.andThen_ok]) h2 hk
  | makeInterface t x =>
    obtain ⟨v, he, hk⟩ := retO_ok hs
    obtain ⟨u, h1, h2⟩ := makeIfcV_run he (rx x)
    exact .pure v u (fun w => by simp only [execOp, runv, h1, Result.andThen_ok]) h2 hk
  | makeFunc f first cs =>
    have hs : runK (mkfnK C mask f first cs) C s kv km kd (.er fn p []) = .ok r mr := hs
    cases f with
    | func g =>
      obtain ⟨v, he, hk⟩ := retO_ok (show retO (mkfnL g first.toList.length (oxs (cOxs C mask (first.toList ++ cs.toList)) s)) kv (.er fn p []) = .ok r mr from hs)
      cases he
      have hl := oxs_spec (C := C) hg hf (first.toList ++ cs.toList)
      have len : (oxs (cOxs C mask (first.toList ++ cs.toList)) s).length = first.toList.length + cs.toList.length := by have := hl.1; simp at this ⊢; omega
      refine .pure _ (.func (.func g) (first.map a.eval) (cs.map a.eval)) (fun w => rfl) ?_ hk
      have get : ∀ j (hj : j < (oxs (cOxs C mask (first.toList ++ cs.toList)) s).length), R E β ((oxs (cOxs C mask (first.toList ++ cs.toList)) s)[j]) (((first.toList ++ cs.toList).map a.eval)[j]'(by rw [← hl.1]; exact hj)) := hl.2
      refine .fn g _ _ _ _ (by simp only [Array.size_map, List.length_take, len, Array.length_toList]; omega) (by simp only [Array.size_map, List.length_drop, len, Array.length_toList]; omega) (fun j hj => ?_) (fun j hj => ?_)
      · rw [List.length_take, len] at hj
        have h5 := get j (by omega)
        simp only [List.getElem_take]
        simp only [List.map_append, List.getElem_append, List.length_map] at h5
        rw [dif_pos (by omega)] at h5
        simpa using h5
      · rw [List.length_drop, len] at hj
        have h5 := get (first.toList.length + j) (by omega)
        simp only [List.getElem_drop]
        simp only [List.map_append, List.getElem_append, List.length_map] at h5
        rw [dif_neg (by omega)] at h5
        simp only [Nat.add_sub_cancel_left] at h5
        simpa using h5
    | _ => cases hs
  | makeSlice t l c =>
    obtain ⟨v, m', he, hk⟩ := rW_ok (C := C) (k1 := kv) (kd := kd) hs
    obtain ⟨y, w', β', g1, g2, g3⟩ := mksliceV_run h (show mksliceV C t (ox (cOx C mask l) s) (ox (cOx C mask c) s) s.m = some (v, m') from he) (rx l) (rx c)
    exact .mem _ _ y w' β' (.inl (by simp only [execOp, runv, g1, Result.andThen_ok])) g2 g3 hk
  | slice t x lo hi mx =>
    have hs : runK (sliceK C mask t x lo hi mx) C s kv km kd (.er fn p []) = .ok r mr := hs
    unfold sliceK at hs
    split at hs
    · obtain ⟨v, he, hk⟩ := retO_ok hs
      unfold arrL at he
      split at he
      · rename_i q hq
        obtain ⟨r1, r2, r3, r4⟩ := slArgs_spec (C := C) hg hf hq
        obtain ⟨y, g1, g2⟩ := arrV_run h he r1 r2 r3 r4
        exact .ld v y (by simp only [execOp, runv, g1, Result.andThen_ok]) g2 hk
      · cases he
    · obtain ⟨v, he, hk⟩ := retO_ok hs
      unfold sliceL at he
      split at he
      · rename_i q hq
        obtain ⟨r1, r2, r3, r4⟩ := slArgs_spec (C := C) hg hf hq
        obtain ⟨y, g1, g2⟩ := sliceV_run he r1 r2 r3 r4
        exact .pure v y (fun w => by simp only [execOp, runv, g1, Result.andThen_ok]) g2 hk
      · cases he
  | fieldAddr t x f =>
    obtain ⟨v, he, hk⟩ := retO_ok hs
    obtain ⟨u, h1, h2⟩ := faddrV_run he (rx x)
    exact .pure v u (fun w => by simp only [execOp, runv, h1, Result.andThen_ok]) h2 hk
  | field t x f =>
    obtain ⟨v, he, hk⟩ := retO_ok hs
    obtain ⟨u, h1, h2⟩ := fieldV_run he (rx x)
    exact .pure v u (fun w => by simp only [execOp, runv, h1, Result.andThen_ok]) h2 hk
  | indexAddr t x i =>
    obtain ⟨v, he, hk⟩ := retO_ok hs
    obtain ⟨u, h1, h2⟩ := iaddrV_run he (rx x) (rx i)
    exact .pure v u (fun w => by simp only [execOp, runv, h1, Result.andThen_ok]) h2 hk
  | index t x i =>
    obtain ⟨v, he, hk⟩ := retO_ok hs
    obtain ⟨u, h1, h2⟩ := indexV_run he (rx x) (rx i)
    exact .pure v u (fun w => by simp only [execOp, runv, h1, Result.andThen_ok]) h2 hk
  | range t x =>
    obtain ⟨v, m', he, hk⟩ := rW_ok (C := C) (k1 := kv) (kd := kd) hs
    have he : rangeL C t s.m [ox (cOx C mask x) s] = some (v, m') := he
    have hr := rx x
    generalize ox (cOx C mask x) s = u at he hr
    cases u <;> simp only [rangeL, undT_eq] at he <;> first | (cases he; done) | skip
    split at he
    · rename_i hu
      cases he
      obtain ⟨y, w', β', g1, g2, g3⟩ := range_run h hu hr
      exact .mem _ _ y w' β' (.inl (by simp only [execOp, runv, g1, Result.andThen_ok])) g2 g3 hk
    · cases he
  | next x b =>
    cases b with
    | false => cases hs
    | true =>
      obtain ⟨v, m', he, hk⟩ := rW_ok (C := C) (k1 := kv) (kd := kd) hs
      obtain ⟨y, w', g1, g2, g3⟩ := nextV_run (P := C.P) h ty (show nextV s.m (ox (cOx C mask x) s) = some (v, m') from he) (rx x)
      exact .mem _ _ y w' β (.inl (by simp only [execOp, runv, g1, Result.andThen_ok])) g2 g3 hk
  | typeAssert x xt t ok =>
    obtain ⟨v, he, hk⟩ := retO_ok hs
    obtain ⟨u, h1, h2⟩ := assertV_run (xt := xt) he (rx x)
    exact .pure v u (fun w => by simp only [execOp, runv, h1, Result.andThen_ok]) h2 hk
  | extract x i =>
    obtain ⟨v, he, hk⟩ := retO_ok hs
    have hr := rx x
    generalize ox (cOx C mask x) s = u at he hr
    cases u <;> simp only [extV'] at he <;> first | (cases he; done) | skip
    generalize hv : a.eval x = va at hr
    cases hr with | tup cs vs hl hrr =>
    rw [List.getElem?_eq_some_iff] at he
    obtain ⟨hj, he⟩ := he
    have h5 := hrr i hj
    rw [he] at h5
    refine .pure v _ (fun w => ?_) h5 hk
    have hv2 : vs[i]? = some (vs[i]'(by omega)) := by simp
    simp only [execOp, runv, hv, Instr.extract, hv2, Sem.run_pure, Result.andThen_ok]
  | call c =>
    obtain ⟨cal, args, ats⟩ := c
    have hl := oxs_spec (C := C) hg hf args.toList
    cases cal with
    | invoke _ _ => cases hs
    | value f =>
      have hs : rCall (cOx C mask f) (cOxs C mask args.toList) C s kv km kd (.er fn p []) = .ok r mr := hs
      unfold rCall at hs
      have hr := rx f
      split at hs
      · rename_i g first caps he
        rw [he] at hr
        generalize hv : a.eval f = va at hr
        cases hr with | fn _ _ _ us vs hx hlv hrx hrr =>
        split at hs
        · rename_i v m' hc
          rw [fV_eq] at hs
          have h1 : Rl E β first us.toList := ⟨by simp [hx], fun j hj => by simpa using hrx j hj⟩
          have h2 : Rl E β caps vs.toList := ⟨by simp [hlv], fun j hj => by simpa using hrr j hj⟩
          refine .call g _ (us.toList ++ (args.toList.map a.eval ++ vs.toList)) v m' (fun w => ?_) (h1.append (hl.append h2)) hc hs
          simp only [execOp, resolve, hv, Deferred.ofValue, pure_bind, invoke]
          congr 2
          apply Array.ext'; simp
        · cases hs
      · cases hs
    | builtin b =>
      obtain ⟨csts, hb⟩ := run_builtin a.eval b args ats dst ty pos after gd
      have hmap : args.map a.eval = (args.toList.map a.eval).toArray := by apply Array.ext'; simp
      have hats : ats = ats.toList.toArray := by simp
      have pureCase : ∀ {b : Builtin} {v : V}, pureB C b ats.toList (oxs (cOxs C mask args.toList) s) = some v → ∃ x, (∀ w, (builtin b ats ty csts (args.map a.eval)).run C.P w = .ok (.value x) w) ∧ R E β v x := by
        intro b v hv
        rw [hmap, hats]
        generalize oxs (cOxs C mask args.toList) s = xs at hv hl
        generalize args.toList.map a.eval = vs at hl
        generalize ats.toList = al at hv
        unfold pureB at hv
        simp only [undT_eq] at hv
        split at hv
        · rename_i t al' x
          obtain ⟨v1, us, rfl, h1, h2⟩ := hl.head; obtain rfl := h2.nil_inv
          generalize hu : C.P.underlying t = du at hv
          unfold lenB at hv
          split at hv <;> first | (cases hv; done) | cases hv
          · cases h1 with | str _ _ ss hst =>
            exact ⟨_, fun w => by simp only [builtin, runv, Builtin.len_, List.getElem?_toArray, List.getElem?_cons_zero, Sem.run_bind, run_under hu, Result.andThen_ok, Sem.run_pure]; rfl, by rw [← hst.size]; exact .int _ _⟩
          · cases h1
            exact ⟨_, fun w => by simp only [builtin, runv, Builtin.len_, List.getElem?_toArray, List.getElem?_cons_zero, Sem.run_bind, run_under hu, Result.andThen_ok, Sem.run_pure]; rfl, .int _ _⟩
          · cases h1
            exact ⟨_, fun w => by simp only [builtin, runv, Builtin.len_, List.getElem?_toArray, List.getElem?_cons_zero, Sem.run_bind, run_under hu, Result.andThen_ok, Sem.run_pure]; rfl, .int _ _⟩
        · rename_i t al' x
          obtain ⟨v1, us, rfl, h1, h2⟩ := hl.head; obtain rfl := h2.nil_inv
          generalize hu : C.P.underlying t = du at hv
          unfold capB at hv
          split at hv <;> first | (cases hv; done) | cases hv
          · cases h1
            exact ⟨_, fun w => by simp only [builtin, runv, Builtin.cap_, List.getElem?_toArray, List.getElem?_cons_zero, Sem.run_bind, run_under hu, Result.andThen_ok, Sem.run_pure]; rfl, .int _ _⟩
          · cases h1 with | sl _ _ _ _ _ rc ad p hb hlen hc had hn =>
            have := hc _ rfl
            exact ⟨_, fun w => by simp only [builtin, runv, Builtin.cap_, List.getElem?_toArray, List.getElem?_cons_zero, Sem.run_bind, run_under hu, Result.andThen_ok, Sem.run_pure]; rfl, by rw [this]; exact .int _ _⟩
        · rename_i x y
          obtain ⟨v1, us, rfl, h1, h2⟩ := hl.head; obtain ⟨v2, us2, rfl, h3, h4⟩ := h2.head; obtain rfl := h4.nil_inv
          unfold minB at hv
          split at hv <;> first | (cases hv; done) | cases hv
          have e1 := h1.int_inv; have e2 := h3.int_inv; subst e1 e2
          refine ⟨_, fun w => by simp only [builtin, runv, Builtin.min_, List.foldlM_cons, List.foldlM_nil, Builtin.min2, bind_pure, Sem.run_pure, Result.andThen_ok]; rfl, ?_⟩
          rename_i k n k' n'
          rw [ltI_eq]
          by_cases e : n' < n
          · simp only [e, decide_true, if_true]; exact .int _ _
          · simp only [e, decide_false, if_false]; exact .int _ _
        · rename_i x y
          obtain ⟨v1, us, rfl, h1, h2⟩ := hl.head; obtain ⟨v2, us2, rfl, h3, h4⟩ := h2.head; obtain rfl := h4.nil_inv
          unfold maxB at hv
          split at hv <;> first | (cases hv; done) | cases hv
          have e1 := h1.int_inv; have e2 := h3.int_inv; subst e1 e2
          refine ⟨_, fun w => by simp only [builtin, runv, Builtin.max_, List.foldlM_cons, List.foldlM_nil, Builtin.max2, bind_pure, Sem.run_pure, Result.andThen_ok]; rfl, ?_⟩
          rename_i k n k' n'
          rw [ltI_eq]
          by_cases e : n < n'
          · simp only [e, decide_true, if_true, gt_iff_lt]; exact .int _ _
          · simp only [e, decide_false, if_false, gt_iff_lt]; exact .int _ _
        · cases hv
      have memCase : ∀ {b : Builtin} {v : V} {m' : Mem}, (b = .append ∨ b = .copy) → builtinV C b ats.toList (oxs (cOxs C mask args.toList) s) s.m = some (v, m') →
          ∃ x w' β', (builtin b ats ty csts (args.map a.eval)).run C.P w = .ok (.value x) w' ∧ Good E w0 O β s.m w β' m' w' ∧ R E β' v x := by
        intro b v m' hbb hv
        rw [hmap, hats]
        generalize oxs (cOxs C mask args.toList) s = xs at hv hl
        generalize args.toList.map a.eval = vs at hl
        generalize ats.toList = al at hv
        unfold builtinV at hv
        simp only [undT_eq, infT_eq] at hv
        split at hv <;> first | (rcases hbb with h7 | h7 <;> cases h7; done) | (cases hv; done) | skip
        · -- append
          rename_i sx x
          obtain ⟨v1, us, rfl, h1, h2⟩ := hl.head; obtain ⟨v2, us2, rfl, h3, h4⟩ := h2.head; obtain rfl := h4.nil_inv
          split at hv
          · rename_i t tx
            split at hv
            · rename_i e dx hu hd
              simp only [Option.bind_eq_some_iff] at hv
              obtain ⟨i, hi, hv⟩ := hv
              split at hv
              · cases hv
              · rename_i hc
                simp only [Bool.and_eq_true] at hc
                have c1 : 0 < i.size := by simpa using hc.1.1
                have c2 : 0 < i.bytes := by simpa using hc.1.2
                have c3 : i.bytes ≤ 1073741824 := by simpa using hc.2
                have fin : ∀ {q : Nat × List V}, appendV s.m i.size i.bytes sx q = some (v, m') → AppRun E β C.P w t tx e i.size i.bytes ty q.1 q.2 v2 →
                    ∃ x w' β', (builtin .append [t, tx].toArray ty csts [v1, v2].toArray).run C.P w = .ok (.value x) w' ∧ Good E w0 O β s.m w β' m' w' ∧ R E β' v x := by
                  intro q hq hrun
                  obtain ⟨u, w', β', g1, g2, g3⟩ := appendV_run (n := q.1) (l := q.2) h c1 hrun h1 hq
                  exact ⟨u, w', β', by simp only [builtin, runv]; rw [show (Builtin.append_ [t, tx].toArray ty [v1, v2].toArray) = Builtin.append_ #[t, tx] ty #[v1, v2] from rfl, g1]; rfl, g2, g3⟩
                simp only [Option.bind_eq_some_iff] at hv
                obtain ⟨z0, hz0, hv⟩ := hv
                obtain ⟨i', z, hi', hz, hlen, hzs, hzf, hzr⟩ := zeroV_run (E := E) (β := β) hz0
                rw [hi] at hi'; cases hi'
                have data : (C.P.underlying tx = some .string ∨ ∃ e', C.P.underlying tx = some (.slice e')) → ((given s.m i.size x).bind fun q => appendV s.m i.size i.bytes sx q) = some (v, m') →
                    ∃ x w' β', (builtin .append [t, tx].toArray ty csts [v1, v2].toArray).run C.P w = .ok (.value x) w' ∧ Good E w0 O β s.m w β' m' w' ∧ R E β' v x := by
                  intro P0 hv
                  simp only [Option.bind_eq_some_iff] at hv
                  obtain ⟨q, hq, hv⟩ := hv
                  have hgv := given_run (P := C.P) h hq h3
                  exact fin hv (AppRun.gives hu P0 hi hz rfl rfl hzs c2 c3 ty hgv)
                split at hv
                · rename_i kt
                  simp only [Option.bind_eq_some_iff] at hv
                  obtain ⟨n, hn, hv⟩ := hv
                  split at hv
                  · rename_i hnb
                    have hnb : n * i.bytes ≤ 1099511627776 := by simpa using hnb
                    obtain ⟨k, rfl⟩ := asN_val hn h3
                    exact fin hv (AppRun.zeros hu hd hi hz rfl rfl hzs c2 c3 c1 hzr hzf ty hnb)
                  · cases hv
                · exact data (.inl hd) hv
                · exact data (.inr ⟨_, hd⟩) hv
                · cases hv
            · cases hv
          · cases hv
        · -- copy
          rename_i dx x
          obtain ⟨v1, us, rfl, h1, h2⟩ := hl.head; obtain ⟨v2, us2, rfl, h3, h4⟩ := h2.head; obtain rfl := h4.nil_inv
          split at hv
          · rename_i t ts
            split at hv
            · rename_i e hu
              simp only [Option.bind_eq_some_iff] at hv
              obtain ⟨i, hi, hv⟩ := hv
              split at hv
              · rename_i hc
                have c1 : 0 < i.size := by simpa using hc
                obtain ⟨u, w', g1, g2, g3⟩ := copyV_run (P := C.P) (ts := ts) h hu hi rfl c1 ty hv h1 h3
                exact ⟨u, w', β, by simp only [builtin, runv]; rw [show (Builtin.copy_ [t, ts].toArray ty [v1, v2].toArray) = Builtin.copy_ #[t, ts] ty #[v1, v2] from rfl, g1]; rfl, g2, g3⟩
              · cases hv
            · cases hv
          · cases hv
      by_cases hap : b = .append
      · subst hap
        obtain ⟨v, m', he, hk⟩ := rW_ok (C := C) (k1 := kv) (kd := kd) hs
        obtain ⟨x, w', β', g1, g2, g3⟩ := memCase (.inl rfl) he
        exact .mem _ _ x w' β' (.inl (by simp only [hb]; exact g1)) g2 g3 hk
      · by_cases hcp : b = .copy
        · subst hcp
          obtain ⟨v, m', he, hk⟩ := rW_ok (C := C) (k1 := kv) (kd := kd) hs
          obtain ⟨x, w', β', g1, g2, g3⟩ := memCase (.inr rfl) he
          exact .mem _ _ x w' β' (.inl (by simp only [hb]; exact g1)) g2 g3 hk
        · have key : cK (.call ⟨.builtin b, args, ats⟩) C mask = .un (pureB C b ats.toList) (cOxs C mask args.toList) := by
            cases b <;> first | rfl | exact absurd rfl hap | exact absurd rfl hcp
          simp only [key] at hs
          obtain ⟨v, he, hk⟩ := retO_ok (show retO (pureB C b ats.toList (oxs (cOxs C mask args.toList) s)) kv (.er fn p []) = .ok r mr from hs)
          obtain ⟨x, g1, g2⟩ := pureCase he
          exact .pure v x (fun w => by simp only [hb]; exact g1 w) g2 hk
  | defer c =>
    obtain ⟨cal, args, ats⟩ := c
    have hl := oxs_spec (C := C) hg hf args.toList
    cases cal with
    | value f =>
      have hs : rDfr (cOx C mask f) (cOxs C mask args.toList) C s kv km kd (.er fn p []) = .ok r mr := hs
      unfold rDfr at hs
      have hr := rx f
      generalize hxx : ox (cOx C mask f) s = u at hs hr
      cases u with
      | fn g first caps =>
        generalize hv : a.eval f = va at hr
        cases hr with | fn _ _ _ us vs hx hlv hrx hrr =>
        have h1 : Rl E β first us.toList := ⟨by simp [hx], fun j hj => by simpa using hrx j hj⟩
        have h2 : Rl E β caps vs.toList := ⟨by simp [hlv], fun j hj => by simpa using hrr j hj⟩
        refine .dfr _ _ { target := .fn (.func g) vs, args := us ++ args.map a.eval } (fun w => ?_) (.mk g first caps us vs _ (args.map a.eval) h1 h2 (by simpa using hl)) hs
        simp only [execOp, resolve, hv, Deferred.ofValue, pure_bind, Sem.run_pure]
      | _ => cases hs
    | _ => cases hs
  | _ => cases hs

end Go.Cx

