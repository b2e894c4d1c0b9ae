/- EsC: part of an interpreter of the program's code whose answers are the machine's. No condition. -/
import Derived.Test.YteikhdaaofiefaaGreatEsB
import Derived.MapKept
import Derived.Laws.Sem
import Derived.ChangeReads
import Derived.ChangeArms
import Derived.OpenShut
import Derived.Carry
import Derived.ProofKit
import Derived.ChangeOld
import Derived.SizedLaws
import Derived.ChangeCalls
set_option linter.unusedSimpArgs false
set_option linter.unusedVariables false
namespace Go.Es

variable {df : List Deferred} {mg m0 : Mm} {w0 : World} {OO : Nat → Prop} {g : Gh} {bx : Bx} {w : World} {P : Program} {N : Nat} {pa : List A} {pv : List Value}

/-! ### regions -/
def readsO (o : Ao) : List Nat :=
  (o.xs.filterMap fun | .t n => some n | .l n => some n | .c _ => none) ++ (match o.g with | some (t, _) => [t] | none => [])

def apartAo (x y : Ao) : Bool :=
  (match x.dst with | some d => !(readsO y).contains d && y.dst != some d | none => true) &&
  (match y.dst with | some d => !(readsO x).contains d | none => true) &&
  (pureK x.k || pureK y.k || (writerOk x && writerOk y && (roots x).all (fun a => y.av.contains a && (roots y).all fun b => !a.isSuffixOf b && !b.isSuffixOf a) && (roots y).all fun b => x.av.contains b))

/-- What an operation does to the boxes. -/
def opA (C : Cs) (o : Ao) (tm : Nat → A) (b : Bx) : Option (A × Bx) :=
  (wanted ⟨tm, b⟩ o.g).bind fun w => if w then sem C o (o.xs.map (O.ev tm)) b else some (.tup [], b)

theorem step_eq (C : Cs) (o : Ao) (s : St) : step C o s = (opA C o s.tm s.bx).bind fun p => some (put' s o.dst p.1 p.2) := by
  simp only [step, opA]
  cases wanted s o.g with
  | none => rfl
  | some c => cases c <;> rfl

theorem wanted_tm (tm : Nat → A) (b b' : Bx) (g : Option (Nat × Bool)) : wanted ⟨tm, b⟩ g = wanted ⟨tm, b'⟩ g := by
  cases g with
  | none => rfl
  | some p => rfl

theorem opA_tm (C : Cs) (o : Ao) {tm tm' : Nat → A} (h : ∀ t ∈ readsO o, tm t = tm' t) : opA C o tm = opA C o tm' := by
  funext b
  have h1 : o.xs.map (O.ev tm) = o.xs.map (O.ev tm') := by
    apply List.map_congr_left
    intro x hx
    cases x with
    | c a => rfl
    | t n => exact h n (List.mem_append_left _ (List.mem_filterMap.2 ⟨.t n, hx, rfl⟩))
    | l n => exact congrArg lendA (h n (List.mem_append_left _ (List.mem_filterMap.2 ⟨.l n, hx, rfl⟩)))
  have h2 : wanted ⟨tm, b⟩ o.g = wanted ⟨tm', b⟩ o.g := by
    cases hg : o.g with
    | none => rfl
    | some p =>
      obtain ⟨t, c⟩ := p
      have := h t (List.mem_append_right _ (by simp [hg]))
      simp only [wanted, this]
  simp only [opA, h1, h2]

theorem opA_loc (C : Cs) (o : Ao) (tm : Nat → A) (hw : writerOk o = true) : Loc (fun i => rootOf (roots o) i) (fun i => pureK o.k = false ∧ okId o.av i = true) (fun b => opA C o tm b) := by
  refine (Loc.opt (o := wanted ⟨tm, fun _ => none⟩ o.g) (k := fun w b => if w then sem C o (o.xs.map (O.ev tm)) b else some (.tup [], b)) fun w => Loc.ite (sem_loc C o _ hw) (Loc.pure _)).congr fun b => ?_
  simp only [opA, wanted_tm tm b (fun _ => none)]

theorem opA_pure (C : Cs) (o : Ao) (tm : Nat → A) (hk : pureK o.k = true) : Loc (fun _ => False) (fun _ => False) (fun b => opA C o tm b) := by
  have h : ∀ b, opA C o tm b = (opA C o tm (fun _ => none)).bind fun p => some (p.1, b) := fun b => by
    obtain ⟨d, k, os, gg, av, al⟩ := o
    simp only [opA, wanted_tm tm b (fun _ => none)]
    cases wanted ⟨tm, fun _ => none⟩ gg with
    | none => rfl
    | some c => cases c with
      | false => rfl
      | true => simp only [Option.bind_some, if_true]; exact sem_pure C d k os gg av al hk _ b
  exact (Loc.opt (o := opA C o tm (fun _ => none)) (k := fun p b => some (p.1, b)) fun p => Loc.pure p.1).congr h

theorem okId_not {av : List Id} {a i : Id} (h : av.contains a = true) (hs : a.isSuffixOf i = true) : ¬ okId av i = true := by
  intro hok
  simp only [okId, List.all_eq_true] at hok
  rw [List.contains_iff_mem] at h
  have := hok a h
  rw [hs] at this; cases this

theorem suffix_both {a b i : Id} (h : a.isSuffixOf i = true) (k : b.isSuffixOf i = true) : a.isSuffixOf b = true ∨ b.isSuffixOf a = true := by
  rw [List.isSuffixOf_iff_suffix] at *
  rw [List.isSuffixOf_iff_suffix]
  exact List.suffix_or_suffix_of_suffix h k

theorem swap_op (C : Cs) {x y : Ao} (tm : Nat → A)
    (h : (pureK x.k || pureK y.k || (writerOk x && writerOk y && (roots x).all (fun a => y.av.contains a && (roots y).all fun b => !a.isSuffixOf b && !b.isSuffixOf a) && (roots y).all fun b => x.av.contains b)) = true)
    {b b1 b2 : Bx} {r1 r2 : A} (h1 : opA C x tm b = some (r1, b1)) (h2 : opA C y tm b1 = some (r2, b2)) : ∃ b1', opA C y tm b = some (r2, b1') ∧ opA C x tm b1' = some (r1, b2) := by
  have keep : ∀ {o : Ao} {b b' : Bx} {r : A}, pureK o.k = true → opA C o tm b = some (r, b') → b' = b ∧ ∀ c, opA C o tm c = some (r, c) := by
    intro o b b' r hk ho
    have hp : ∀ c, opA C o tm c = (opA C o tm (fun _ => none)).bind fun p => some (p.1, c) := fun c => by
      obtain ⟨d, k, os, gg, av, al⟩ := o
      simp only [opA, wanted_tm tm c (fun _ => none)]
      cases wanted ⟨tm, fun _ => none⟩ gg with
      | none => rfl
      | some e => cases e with
        | false => rfl
        | true => simp only [Option.bind_some, if_true]; exact sem_pure C d k os gg av al hk _ c
    rw [hp] at ho
    simp only [Option.bind_eq_some_iff] at ho
    obtain ⟨p, e1, e2⟩ := ho
    cases e2
    exact ⟨rfl, fun c => by rw [hp, e1]; rfl⟩
  by_cases hx : pureK x.k = true
  · obtain ⟨rfl, hc⟩ := keep hx h1
    exact ⟨b2, h2, hc _⟩
  by_cases hy : pureK y.k = true
  · obtain ⟨rfl, hc⟩ := keep hy h2
    exact ⟨b, hc _, h1⟩
  simp only [hx, hy, Bool.false_or, Bool.and_eq_true, List.all_eq_true, Bool.not_eq_true'] at h
  obtain ⟨⟨⟨hwx, hwy⟩, hxy⟩, hyx⟩ := h
  refine Loc.swap (opA_loc C x tm hwx) (opA_loc C y tm hwy) (fun i hi => ?_) (fun i hi => ?_) h1 h2
  · obtain ⟨a, ha, hs⟩ := hi
    refine ⟨fun ⟨c, hc, hs'⟩ => ?_, fun hk => okId_not (hxy a ha).1 hs hk.2⟩
    have := (hxy a ha).2 c hc
    rcases suffix_both hs hs' with e | e
    · rw [e] at this; exact absurd this.1 (by simp)
    · rw [e] at this; exact absurd this.2 (by simp)
  · obtain ⟨c, hc, hs⟩ := hi
    refine ⟨fun ⟨a, ha, hs'⟩ => ?_, fun hk => okId_not (hyx c hc) hs hk.2⟩
    have := (hxy a ha).2 c hc
    rcases suffix_both hs hs' with e | e
    · rw [e] at this; exact absurd this.2 (by simp)
    · rw [e] at this; exact absurd this.1 (by simp)

theorem swap_step (C : Cs) {x y : Ao} (h : apartAo x y = true) {s s1 s2 : St} (h1 : step C x s = some s1) (h2 : step C y s1 = some s2) : ∃ s1', step C y s = some s1' ∧ step C x s1' = some s2 := by
  simp only [apartAo, Bool.and_eq_true] at h
  obtain ⟨⟨hx, hy⟩, hm⟩ := h
  rw [step_eq] at h1 h2
  simp only [Option.bind_eq_some_iff, Option.some.injEq] at h1 h2
  obtain ⟨⟨r1, b1⟩, h1, rfl⟩ := h1
  obtain ⟨⟨r2, b2⟩, h2, rfl⟩ := h2
  have ey : opA C y (put' s x.dst r1 b1).tm = opA C y s.tm := opA_tm C y fun t ht => by
    cases hd : x.dst with
    | none => rfl
    | some d =>
      simp only [hd, Bool.and_eq_true, Bool.not_eq_true'] at hx
      simp only [put']
      rw [upd_ne]
      rintro rfl
      have := hx.1
      simp [ht] at this
  have eb : (put' s x.dst r1 b1).bx = b1 := by cases x.dst <;> rfl
  simp only [ey, eb] at h2
  obtain ⟨b1', k1, k2⟩ := swap_op C s.tm hm h1 h2
  have ex : opA C x (put' s y.dst r2 b1').tm = opA C x s.tm := opA_tm C x fun t ht => by
    cases hd : y.dst with
    | none => rfl
    | some d =>
      simp only [hd, Bool.not_eq_true'] at hy
      simp only [put']
      rw [upd_ne]
      rintro rfl
      simp [ht] at hy
  refine ⟨put' s y.dst r2 b1', by rw [step_eq, k1]; rfl, ?_⟩
  have eb' : (put' s y.dst r2 b1').bx = b1' := by cases y.dst <;> rfl
  rw [step_eq, ex, eb', k2]
  simp only [Option.bind_some, Option.some.injEq]
  cases hxd : x.dst with
  | none => cases hyd : y.dst <;> rfl
  | some d => cases hyd : y.dst with
    | none => rfl
    | some e =>
      simp only [put', St.mk.injEq, and_true]
      have hne : e ≠ d := by
        rintro rfl
        simp [hxd, hyd] at hx
      funext t
      simp only [upd]
      by_cases h1 : t = d
      · subst h1; rw [if_pos rfl, if_neg (Ne.symm hne), if_pos rfl]
      · rw [if_neg h1]
        by_cases h2 : t = e
        · rw [if_pos h2, if_pos h2]
        · rw [if_neg h2, if_neg h2, if_neg h1]

theorem steps_append (C : Cs) : ∀ (l r : List Ao) (s : St), steps C (l ++ r) s = (steps C l s).bind fun s' => steps C r s'
  | [], r, s => rfl
  | x :: l, r, s => by
    simp only [List.cons_append, steps]
    cases step C x s with
    | none => rfl
    | some s' => simp only [Option.bind_some]; exact steps_append C l r s'

/-- One that stands in no order with those ahead of it may come first. -/
theorem steps_front (C : Cs) {y : Ao} {q : List Ao} : ∀ {p : List Ao} {s s' : St}, (∀ x ∈ p, apartAo x y = true) → steps C (p ++ y :: q) s = some s' →
    ∃ s1, step C y s = some s1 ∧ steps C (p ++ q) s1 = some s'
  | [], s, s', _, h => by
    simp only [List.nil_append, steps, Option.bind_eq_some_iff] at h ⊢
    exact h
  | x :: p, s, s', hp, h => by
    simp only [List.cons_append, steps, Option.bind_eq_some_iff] at h
    obtain ⟨s1, h1, h2⟩ := h
    obtain ⟨s2, h3, h4⟩ := steps_front C (fun z hz => hp z (List.mem_cons_of_mem _ hz)) h2
    obtain ⟨s1', h5, h6⟩ := swap_step C (hp x (by simp)) h1 h3
    exact ⟨s1', h5, by simp only [List.cons_append, steps, h6, Option.bind_some, h4]⟩

/-- A region, and the interpreter's. -/
structure RegOk (mg : Mm) (P : Program) (N : Nat) (ops : Array Oper) (aos : List Ao) : Prop where
  size : ops.size = aos.length
  fits : ∀ (i : Nat) (o : Oper) (ao : Ao), ops[i]? = some o → aos[i]? = some ao → FitsO mg P N ops o ao

theorem wpOps_sound {C : Cs} (hC : ∀ f, Meets mg P f (C f)) {ops : Array Oper} {aos : List Ao} (hr : RegOk mg P N ops aos) (hmg : mg.le m0) {Q : Exit → Act → World → Prop} :
    ∀ (l : List Nat) (s s' : St) (a : Act) (w : World), (∀ i ∈ l, i < ops.size) → StOk df mg m0 w0 OO N pa pv s a w → steps C (l.map fun i => aos.getD i default) s = some s' →
      (∀ a w, StOk df mg m0 w0 OO N pa pv s' a w → Q .normal a w) → wpOps P ops Q l a w
  | [], s, s', a, w, _, h, hs, hq => by
    simp only [List.map_nil, steps, Option.some.injEq] at hs
    subst hs
    exact hq a w h
  | i :: l, s, s', a, w, hl, h, hs, hq => by
    simp only [List.map_cons, steps, Option.bind_eq_some_iff] at hs
    obtain ⟨s1, h1, h2⟩ := hs
    have hi := hl i (by simp)
    have hi' : i < aos.length := by rw [← hr.size]; exact hi
    have e : aos.getD i default = aos[i] := by simp [hi']
    rw [wpOps_cons]
    rw [e] at h1
    refine step_wp hC (ao := aos[i]) (by simp [hi]) (hr.fits i ops[i] aos[i] (by simp [hi]) (by simp [hi'])) hmg h1 h fun a w h => ?_
    exact wpOps_sound hC hr hmg l s1 s' a w (fun j hj => hl j (by simp [hj])) h h2 hq

/-- The rest of a region whose order is drawn. -/
structure DrawOk (ops : Array Oper) (aos : List Ao) (pre : Nat → Nat → Bool) : Prop where
  on : ∀ (i : Nat) (o : Oper), ops[i]? = some o → ∀ e ∈ o.after, Region.binds .any e = true → e.on < i
  apart : ∀ (i j : Nat) (x y : Ao), j < i → aos[i]? = some y → aos[j]? = some x → pre i j = true ∨ apartAo x y = true
  pre : ∀ (i : Nat) (o : Oper) (j : Nat), ops[i]? = some o → pre i j = true → ∃ e ∈ o.after, Region.binds .any e = true ∧ (e.on = j ∨ pre e.on j = true)

def rest (n : Nat) (listed : Array Bool) : List Nat := (List.range n).filter fun i => !listed.getD i true

theorem rest_listed {n : Nat} {listed : Array Bool} {p q : List Nat} {i : Nat} (h : rest n listed = p ++ i :: q) (hn : listed.size = n) : rest n (listed.setIfInBounds i true) = p ++ q := by
  have hi : i ∈ rest n listed := by rw [h]; simp
  have hnd : (rest n listed).Nodup := List.Pairwise.filter _ List.nodup_range
  have e : rest n (listed.setIfInBounds i true) = (rest n listed).filter (fun j => decide (j ≠ i)) := by
    simp only [rest, List.filter_filter]
    apply List.filter_congr
    intro j hj
    rw [List.mem_range] at hj
    by_cases e : j = i
    · subst e
      have : j < listed.size := by omega
      simp [this]
    · rw [getD_set_ne true (Ne.symm e)]
      simp [e]
  rw [e, h]
  rw [h] at hnd
  rw [List.nodup_append] at hnd
  obtain ⟨_, h2, h3⟩ := hnd
  rw [List.nodup_cons] at h2
  rw [List.filter_append, List.filter_cons]
  simp only [ne_eq, not_true_eq_false, decide_false, Bool.false_eq_true, if_false]
  rw [List.filter_eq_self.2 (fun x hx => by simp; rintro rfl; exact h3 x hx x (by simp) rfl), List.filter_eq_self.2 (fun x hx => by simp; rintro rfl; exact h2.1 hx)]

theorem wpAny_sound' {C : Cs} (hC : ∀ f, Meets mg P f (C f)) {ops : Array Oper} {aos : List Ao} (hr : RegOk mg P N ops aos) {pre : Nat → Nat → Bool} (hd : DrawOk ops aos pre) (hmg : mg.le m0) {Q : Exit → Act → World → Prop} :
    ∀ (fuel : Nat) (listed : Array Bool) (s s' : St) (a : Act) (w : World), listed.size = ops.size → (∀ k, listed.getD k false = true → ∀ j, pre k j = true → listed.getD j false = true) →
      (rest ops.size listed).length ≤ fuel → StOk df mg m0 w0 OO N pa pv s a w → steps C ((rest ops.size listed).map fun i => aos.getD i default) s = some s' →
      (∀ a w, StOk df mg m0 w0 OO N pa pv s' a w → Q .normal a w) → wpAny P .any ops Q fuel listed a w := by
  have ready_sub : ∀ (listed : Array Bool) (i : Nat), i ∈ Region.ready .any ops listed → i ∈ rest ops.size listed := fun listed i hi => by
    have := mem_ready.1 hi
    obtain ⟨h0, o, ho, _⟩ := this
    simp only [rest, List.mem_filter, List.mem_range]
    exact ⟨(Array.getElem?_eq_some_iff.1 ho).1, by simp [h0]⟩
  have nil : ∀ (listed : Array Bool), listed.size = ops.size → Region.ready .any ops listed = [] → rest ops.size listed = [] := fun listed hsz hn => by
    cases hl : rest ops.size listed with
    | nil => rfl
    | cons i r =>
      exfalso
      have hi : i ∈ rest ops.size listed := by rw [hl]; simp
      have hi0 := hi
      simp only [rest, List.mem_filter, List.mem_range, Bool.not_eq_true'] at hi
      have hmin : ∀ j, j < i → listed.getD j true = true := fun j hj => by
        cases hx : listed.getD j true with
        | true => rfl
        | false =>
          exfalso
          have hj' : j ∈ rest ops.size listed := by
            simp only [rest, List.mem_filter, List.mem_range, Bool.not_eq_true']
            exact ⟨by omega, hx⟩
          have hs : (rest ops.size listed).Pairwise (· < ·) := List.Pairwise.filter _ List.pairwise_lt_range
          rw [hl] at hs hj'
          rw [List.pairwise_cons] at hs
          rcases List.mem_cons.1 hj' with h | h
          · omega
          · have := hs.1 j h; omega
      have : i ∈ Region.ready .any ops listed := by
        rw [mem_ready]
        refine ⟨hi.2, ops[i], by simp [hi.1], fun e he hb => ?_⟩
        have hlt := hd.on i ops[i] (by simp [hi.1]) e he hb
        have := hmin e.on hlt
        have hs : e.on < listed.size := by omega
        simpa [hs] using this
      rw [hn] at this; cases this
  intro fuel
  induction fuel with
  | zero =>
    intro listed s s' a w hsz hdown hlen h hs hq
    have e : rest ops.size listed = [] := by
      cases hl : rest ops.size listed with
      | nil => rfl
      | cons x r => rw [hl] at hlen; simp at hlen
    refine ⟨?_, ?_⟩
    · cases hrd : Region.ready .any ops listed with
      | nil => rfl
      | cons i r =>
        have := ready_sub listed i (by rw [hrd]; simp)
        rw [e] at this; cases this
    · rw [e] at hs
      simp only [List.map_nil, steps, Option.some.injEq] at hs
      subst hs
      exact hq a w h
  | succ fuel ih =>
    intro listed s s' a w hsz hdown hlen h hs hq
    refine ⟨fun hn => ?_, fun i hi => ?_⟩
    · rw [nil listed hsz hn] at hs
      simp only [List.map_nil, steps, Option.some.injEq] at hs
      subst hs
      exact hq a w h
    · have hmem := ready_sub listed i hi
      obtain ⟨p, q, hpq⟩ := List.append_of_mem hmem
      have hlt : i < ops.size := by
        simp only [rest, List.mem_filter, List.mem_range] at hmem
        exact hmem.1
      have hlt' : i < aos.length := by rw [← hr.size]; exact hlt
      obtain ⟨h0, o, ho, hall⟩ := mem_ready.1 hi
      have hpre : ∀ j, pre i j = true → listed.getD j false = true := fun j hj => by
        obtain ⟨e, he, hb, hor⟩ := hd.pre i o j ho hj
        have hl := hall e he hb
        rcases hor with rfl | hor
        · exact hl
        · exact hdown e.on hl j hor
      have hap : ∀ x ∈ p.map (fun i => aos.getD i default), apartAo x (aos.getD i default) = true := fun x hx => by
        obtain ⟨j, hj, rfl⟩ := List.mem_map.1 hx
        have hjm : j ∈ rest ops.size listed := by rw [hpq]; simp [hj]
        have hjl : j < i := by
          have hs : (rest ops.size listed).Pairwise (· < ·) := List.Pairwise.filter _ List.pairwise_lt_range
          rw [hpq, List.pairwise_append] at hs
          exact hs.2.2 j hj i (by simp)
        simp only [rest, List.mem_filter, List.mem_range, Bool.not_eq_true'] at hjm
        have hj' : j < aos.length := by omega
        have e1 : aos.getD i default = aos[i] := by simp [hlt']
        have e2 : aos.getD j default = aos[j] := by simp [hj']
        rw [e1, e2]
        rcases hd.apart i j aos[j] aos[i] hjl (by simp [hlt']) (by simp [hj']) with h | h
        · have h1 := hpre j h
          have hs : j < listed.size := by omega
          have h2 := hjm.2
          simp only [Array.getD_eq_getD_getElem?, Array.getElem?_eq_getElem hs, Option.getD_some] at h1 h2
          rw [h1] at h2; cases h2
        · exact h
      rw [hpq, List.map_append, List.map_cons] at hs
      obtain ⟨s1, hs1, hs2⟩ := steps_front C hap hs
      have e1 : aos.getD i default = aos[i] := by simp [hlt']
      rw [e1] at hs1
      refine step_wp hC (ao := aos[i]) ho (hr.fits i o aos[i] ho (by simp [hlt'])) hmg hs1 h fun a w h => ?_
      have hrl := rest_listed hpq hsz
      refine ih (listed.setIfInBounds i true) s1 s' a w (by simp [hsz]) (fun k hk j hj => ?_) ?_ h ?_ hq
      · by_cases e : k = i
        · subst e; exact getD_set_true (hpre j hj)
        · rw [getD_set_ne false (Ne.symm e)] at hk
          exact getD_set_true (hdown k hk j hj)
      · rw [hrl]
        rw [hpq] at hlen
        simp at hlen ⊢
        omega
      · rw [hrl, List.map_append]; exact hs2

/-! ### forgetting -/
theorem tab_spec : ∀ {l : List (Nat × A)} {n : Nat}, tab l n = .top ∨ (n, tab l n) ∈ l
  | [], n => .inl rfl
  | p :: r, n => by
    simp only [tab]
    split
    · rename_i h; subst h; exact .inr (by simp)
    · rcases tab_spec (l := r) (n := n) with h | h
      · exact .inl h
      · exact .inr (by simp [h])

theorem tabB_spec {bx : Bx} : ∀ {bs : List Id} {n : Id}, tabB (bs.map fun b => (b, bx b)) n = if n ∈ bs then bx n else none
  | [], n => rfl
  | p :: r, n => by
    simp only [List.map_cons, tabB, List.mem_cons]
    by_cases h : n = p
    · subst h; simp
    · simp only [h, if_false, false_or]; exact tabB_spec

theorem inB_go {bs : List Id} : ∀ {cs : List A}, inB.go bs cs = true → ∀ j (h : j < cs.length), inB bs cs[j] = true
  | [], _, j, h => by simp at h
  | c :: r, hg, j, h => by
    simp only [inB.go, Bool.and_eq_true] at hg
    cases j with
    | zero => exact hg.1
    | succ j => exact inB_go hg.2 j (by simpa using h)

theorem RA.keep {bx' : Bx} {bs : List Id} (hb : ∀ i, i ∈ bs → bx' i = bx i) {a : A} {v : Value} (h : RA g bx a v) (hi : inB bs a = true) : RA g bx' a v := by
  have mem : ∀ {i : Id}, bs.contains i = true → bx' i = bx i := fun h => hb _ (List.contains_iff_mem.1 h)
  induction h with
  | d h => exact .d h
  | mix cs vs hl hf _ ih => exact .mix cs vs hl hf fun j hj => ih j hj (inB_go (by simpa [inB] using hi) j hj)
  | tup cs vs hl _ ih => exact .tup cs vs hl fun j hj => ih j hj (inB_go (by simpa [inB] using hi) j hj)
  | nilp => exact .nilp
  | nils => exact .nils
  | empt a cap => exact .empt a cap
  | ptr id ver off cs p hb' hp => exact .ptr id ver off cs p ((mem (by simpa [inB] using hi)).trans hb') hp
  | ptrOld id ver off b x hb' hv => exact .ptrOld id ver off b x ((mem (by simpa [inB] using hi)).trans hb') hv
  | elt x off b o u hm hf hr => exact .elt x off b o u hm hf hr
  | ref id ver off len sz a cap es fz p hb' hp hsz hlen hcap ha hn => exact .ref id ver off len sz a cap es fz p ((mem (by simpa [inB] using hi)).trans hb') hp hsz hlen hcap ha hn
  | refNil id ver sz fz hb' hp => exact .refNil id ver sz fz ((mem (by simpa [inB] using hi)).trans hb') hp
  | refOld id ver off len sz cap a x hb' hv hcap ha => exact .refOld id ver off len sz cap a x ((mem (by simpa [inB] using hi)).trans hb') hv hcap ha
  | eref id ver idx off es fz p hb' hp hi' => exact .eref id ver idx off es fz p ((mem (by simpa [inB] using hi)).trans hb') hp hi'
  | erefOld id ver idx off b o x hb' hv => exact .erefOld id ver idx off b o x ((mem (by simpa [inB] using hi)).trans hb') hv
  | lref id ver off len sz v _ ih => exact .lref id ver off len sz v (ih (by simpa [inB] using hi))
  | fn f cs vs hl _ ih => exact .fn f cs vs hl fun j hj => ih j hj (inB_go (by simpa [inB] using hi) j hj)
  | top v => exact .top v

mutual
theorem inB_mono1 {bs pb : List Id} (mem : ∀ i : Id, pb.contains i = true → bs.contains i = true) : ∀ (a : A), inB pb a = true → inB bs a = true
  | .ptr id ver off, hi => by simp only [inB] at hi ⊢; exact mem _ hi
  | .ref id ver off len sz, hi => by simp only [inB] at hi ⊢; exact mem _ hi
  | .eref id ver idx off, hi => by simp only [inB] at hi ⊢; exact mem _ hi
  | .lref id ver off len sz, hi => by simp only [inB] at hi ⊢; exact mem _ hi
  | .mix cs, hi => by simp only [inB] at hi ⊢; exact inB_monoL mem cs hi
  | .tup cs, hi => by simp only [inB] at hi ⊢; exact inB_monoL mem cs hi
  | .fn f cs, hi => by simp only [inB] at hi ⊢; exact inB_monoL mem cs hi
  | .d _, _ => by simp only [inB]
  | .nilp, _ => by simp only [inB]
  | .nils, _ => by simp only [inB]
  | .empt, _ => by simp only [inB]
  | .elt _ _, _ => by simp only [inB]
  | .top, _ => by simp only [inB]
theorem inB_monoL {bs pb : List Id} (mem : ∀ i : Id, pb.contains i = true → bs.contains i = true) : ∀ (cs : List A), inB.go pb cs = true → inB.go bs cs = true
  | [], _ => by simp only [inB.go]
  | c :: r, hi => by
    simp only [inB.go, Bool.and_eq_true] at hi ⊢
    exact ⟨inB_mono1 mem c hi.1, inB_monoL mem r hi.2⟩
end

theorem inB_mono {bs pb : List Id} (h : pb.all bs.contains = true) {cs : List A} (hi : inB.go pb cs = true) : inB.go bs cs = true :=
  inB_monoL (fun i hi => by
    rw [List.all_eq_true] at h
    exact h _ (List.contains_iff_mem.1 hi)) cs hi

theorem RAl.of_get {cs : List A} {vs : List Value} (hl : cs.length = vs.length) (hr : ∀ j (h : j < cs.length), RA g bx cs[j] (vs[j]'(by omega))) : RAl g bx cs vs := by
  have := RAl.of (g := g) (bx := bx) (cs := cs) (vs := vs.toArray) (by simp [hl]) (fun j hj => by simpa using hr j hj)
  simpa using this

theorem keepA_sound {ts : List Nat} {bs pb : List Id} (hpb : pb.all bs.contains = true) (hin : inB.go pb pa = true) {s s' : St} (hk : keepA ts bs s = some s') {a : Act} {w : World} (h : StOk df mg m0 w0 OO N pa pv s a w) : StOk df mg m0 w0 OO N pa pv s' a w := by
  simp only [keepA, A.nf_eq, nfB_eq] at hk
  split at hk
  · rename_i hc
    cases hk
    simp only [Bool.and_eq_true, List.all_eq_true] at hc
    obtain ⟨g, hi, ht, hN, hd, hpa⟩ := h
    have hb : ∀ i, i ∈ bs → tabB (bs.map fun b => (b, s.bx b)) i = s.bx i := fun i hi => by rw [tabB_spec, if_pos hi]
    have sub : ∀ {i : Id} {x : Box}, tabB (bs.map fun b => (b, s.bx b)) i = some x → i ∈ bs ∧ s.bx i = some x := fun {i x} h => by
      rw [tabB_spec] at h
      split at h
      · rename_i h'; exact ⟨h', h⟩
      · cases h
    have sub' : ∀ {i : Id}, tabB (bs.map fun b => (b, s.bx b)) i ≠ none → s.bx i ≠ none := fun {i} h hn => by
      cases hx : tabB (bs.map fun b => (b, s.bx b)) i with
      | none => exact h hx
      | some x => rw [(sub hx).2] at hn; cases hn
    refine ⟨g, ⟨⟨hi.sim.cons, fun id x hx => ?_, fun i j p q h1 h2 => hi.sim.apart i j p q (sub' h1) (sub' h2)⟩, hi.mle, hi.keep, hi.size, hi.os, hi.tape, hi.output⟩, ⟨ht.1, fun t => ?_⟩, hN, hd, ?_⟩
    · obtain ⟨hm, hx'⟩ := sub hx
      have hbi := hc.2 id hm
      cases hi.sim.box id x hx' with
      | cells cs ver p vals ty fr hp hh hn hbare hf hr hM ho =>
        rw [hx'] at hbi
        simp only [boxIn] at hbi
        exact .cells cs ver p vals ty fr hp hh hn hbare hf (fun j hj => (hr j hj).keep hb (inB_go hbi j hj)) hM ho
      | arr es ver fz p vals ty fr hp hh hn hbare hfit hsz hf hr hm hz ho => exact .arr es ver fz p vals ty fr hp hh hn hbare hfit hsz hf hr hm hz ho
      | nil ver fz hp => exact .nil ver fz hp
    · show RA g _ (tab (ts.map fun t => (t, s.tm t)) t) _
      rcases tab_spec (l := ts.map fun t => (t, s.tm t)) (n := t) with h | h
      · rw [h]; exact .top _
      · rw [List.mem_map] at h
        obtain ⟨t', ht', he⟩ := h
        simp only [Prod.mk.injEq] at he
        obtain ⟨rfl, he⟩ := he
        rw [← he]
        exact (ht.2 t').keep hb (hc.1 t' ht')
    · have hg := inB_go (inB_mono hpb hin)
      have e := hpa.length
      have hget := hpa.get
      exact RAl.of_get e fun j hj => (hget j hj).keep hb (hg j hj)
  · cases hk

/-! ### ghosts -/
theorem A.flat'_flat {a : A} (h : a.flat' = true) : a.flat = true := by
  cases a with
  | d x => cases x <;> simp_all [A.flat', A.flat, D.flat]
  | _ => simp_all [A.flat', A.flat]

theorem RAl.monoLe {g g' : Gh} {bx bx' : Bx} (hle : Le g bx g' bx') {pa : List A} {pv : List Value} (h : RAl g bx pa pv) : RAl g' bx' pa pv :=
  RAl.of_get h.length fun j hj => (h.get j hj).mono hle

theorem TmOk.putG {mg : Mm} {g g' : Gh} {bx bx' : Bx} {tm : Nat → A} {a : Act} (h : TmOk mg g bx tm a) (hle : Le g bx g' bx') {t : Nat} {x : A} (hx : ∀ v, RA g bx (tm t) v → RA g' bx' x v) : TmOk mg g' bx' (upd tm t x) a := by
  refine ⟨fun b o v e => hle.m b o v (h.1 b o v e), fun i => ?_⟩
  by_cases e : i = t
  · subst e
    rw [upd_self]
    exact hx _ (h.2 i)
  · rw [upd_ne _ _ _ _ e]
    exact (h.2 i).mono hle

theorem own_step {m0 : Mm} {w0 : World} {O : Nat → Prop} {g : Gh} {bx : Bx} {w : World} (h : Inv m0 w0 O g bx w) {id : Id} {n : Nat} {a x : A} {bx' : Bx} (hs : ownA bx id n a = some (x, bx')) :
    ∃ g', Inv m0 w0 O g' bx' w ∧ Le g bx g' bx' ∧ ∀ v, RA g bx a v → RA g' bx' x v := by
  cases a with
  | nils =>
    simp only [ownA, Option.some.injEq, Prod.mk.injEq] at hs
    obtain ⟨rfl, rfl⟩ := hs
    have hle : Le g bx ⟨g.m, upd g.β id none⟩ (upd bx id (some (.arr [] (nextVer bx id) false))) := Le.fresh g.m (fun _ _ _ h => h) none (Nat.le_refl _)
    refine ⟨⟨g.m, upd g.β id none⟩, ⟨?_, h.mle, h.keep, h.size, h.os, h.tape, h.output⟩, hle, fun v hv => ?_⟩
    · refine h.sim.change id hle (fun i e => upd_ne _ _ _ _ e) (fun i e => upd_ne _ _ _ _ e) (fun _ _ _ _ _ => rfl) (fun _ _ _ _ _ _ => rfl) h.sim.cons (fun y hy => ?_) (fun j _ _ p q hp _ => ?_)
      · rw [upd_self] at hy; cases hy
        exact .nil _ _ (upd_self _ _ _)
      · replace hp : upd g.β id none id = some p := hp
        rw [upd_self] at hp; cases hp
    · cases hv
      exact .refNil _ _ _ _ (upd_self _ _ _) (upd_self _ _ _)
  | _ => simp [ownA] at hs

theorem cellG_sound {m0 : Mm} {w0 : World} {O : Nat → Prop} {g : Gh} {bx bx' : Bx} {w : World} {f : Bx → A → Option (A × Bx)} (h : Inv m0 w0 O g bx w)
    (hf : ∀ {a x : A} {b : Bx}, f bx a = some (x, b) → ∀ v, RA g bx a v → ∃ g', Inv m0 w0 O g' b w ∧ Le g bx g' b ∧ RA g' b x v) {id : Id} {j : Nat} (hs : cellG f id j bx = some bx') :
    ∃ g', Inv m0 w0 O g' bx' w ∧ Le g bx g' bx' := by
  simp only [cellG] at hs
  split at hs
  · rename_i cs ver hb
    simp only [Option.bind_eq_some_iff] at hs
    obtain ⟨a, ha, ⟨x, b⟩, hx, hs⟩ := hs
    simp only at hs
    split at hs
    · rename_i cs' ver' hb'
      split at hs
      · rename_i hc
        obtain ⟨rfl, hj, hfl⟩ := hc
        cases hs
        obtain ⟨hjl, ha⟩ := List.getElem?_eq_some_iff.1 ha
        cases h.sim.box id _ hb with
        | cells _ _ p vals ty fr hp hh hn hbare hcf hr hm ho =>
          have hv := hr j hjl
          rw [ha] at hv
          obtain ⟨g', hi, hle, hx'⟩ := hf hx _ hv
          obtain ⟨⟨cs2, e2⟩, hβ⟩ := hle.cells id cs ver' hb _ hb' rfl
          cases e2
          cases hi.sim.box id _ hb' with
          | cells _ _ p' vals' ty' fr' hp' hh' hn' hbare' hcf' hr' hm' ho' =>
            rw [hβ, hp] at hp'; cases hp'
            rw [hh] at hh'; cases hh'
            have hle2 : Le g' b g' (upd b id (some (.cells (cs'.set j x) ver'))) := by
              refine ⟨fun _ _ _ h => h, fun i y hy => ?_, fun i cs0 v0 hy x' hx'' hver => ?_, fun i es v0 fz hy x' hx'' hver => ?_⟩
              · by_cases e : i = id
                · subst e; rw [hb'] at hy; cases hy
                  exact ⟨_, upd_self _ _ _, Nat.le_refl _⟩
                · exact ⟨y, by rw [upd_ne _ _ _ _ e]; exact hy, Nat.le_refl _⟩
              · by_cases e : i = id
                · subst e; rw [hb'] at hy; cases hy
                  rw [upd_self] at hx''; cases hx''
                  exact ⟨⟨_, rfl⟩, rfl⟩
                · rw [upd_ne _ _ _ _ e, hy] at hx''; cases hx''
                  exact ⟨⟨_, rfl⟩, rfl⟩
              · by_cases e : i = id
                · subst e; rw [hb'] at hy; cases hy
                · rw [upd_ne _ _ _ _ e, hy] at hx''; cases hx''
                  exact ⟨⟨_, _, rfl, rfl⟩, rfl⟩
            refine ⟨g', ⟨?_, hi.mle, hi.keep, hi.size, hi.os, hi.tape, hi.output⟩, hle.trans hle2⟩
            refine hi.sim.change id hle2 (fun i e => upd_ne _ _ _ _ e) (fun _ _ => rfl) (fun _ _ _ _ _ => rfl) (fun _ _ _ _ _ _ => rfl) hi.sim.cons (fun y hy => ?_) (fun k hk hkb q r hq hr0 => ?_)
            · rw [upd_self] at hy; cases hy
              refine .cells _ _ p vals ty fr (by rw [hβ]; exact hp) hh (by rw [List.length_set]; exact hn') hbare (fun k hk => ?_) (fun k hk => ?_) hm' ho'
              · rw [List.getElem_set]
                split
                · exact A.flat'_flat hfl
                · exact hcf' k (by simpa using hk)
              · rw [List.getElem_set]
                split
                · rename_i e; subst e
                  exact hx'.mono hle2
                · exact (hr' k (by simpa using hk)).mono hle2
            · intro e
              exact hk (hi.sim.apart k id r q hkb (by rw [hb']; simp) hr0 hq e.symm)
      · cases hs
    · cases hs
  · cases hs

theorem frzA_some {bx b : Bx} {a x : A} (h : frzA bx a = some (x, b)) : ∃ y, snap [] bx a = some (y, b) ∧ x = .d y := by
  unfold frzA at h
  split at h
  · cases h
  · simp only [Option.bind_eq_some_iff] at h
    obtain ⟨⟨y, b'⟩, h1, he⟩ := h
    cases he
    exact ⟨y, h1, rfl⟩

theorem mv_step {m0 : Mm} {w0 : World} {O : Nat → Prop} {g : Gh} {bx : Bx} {w : World} (h : Inv m0 w0 O g bx w) {id' : Id} {a x : A} {bx' : Bx} (hs : mvA bx id' a = some (x, bx')) :
    ∃ g', Inv m0 w0 O g' bx' w ∧ Le g bx g' bx' ∧ ∀ v, RA g bx a v → RA g' bx' x v := by
  cases a with
  | ref i v off len n =>
    simp only [mvA] at hs
    split at hs
    · cases hs
    rename_i hne
    split at hs
    · rename_i es v' fz hb
      split at hs
      · rename_i hv
        subst hv
        simp only [Option.some.injEq, Prod.mk.injEq] at hs
        obtain ⟨rfl, rfl⟩ := hs
        have hne' : id' ≠ i := fun e => hne e.symm
        have hle1 : Le g bx ⟨g.m, upd g.β i none⟩ (upd bx i (some (.arr [] (v' + 1) false))) := Le.fresh g.m (fun _ _ _ h => h) none (by simp [nextVer, hb, Box.ver])
        have hnv : nextVer (upd bx i (some (.arr [] (v' + 1) false))) id' ≤ nextVer bx id' := by simp [nextVer, upd_ne _ _ _ _ hne']
        have hle2 := Le.fresh (g := ⟨g.m, upd g.β i none⟩) (bx := upd bx i (some (.arr [] (v' + 1) false))) (id := id') (x := .arr es (nextVer bx id') fz) g.m (fun _ _ _ h => h) (g.β i) hnv
        have hle := hle1.trans hle2
        refine ⟨⟨g.m, upd (upd g.β i none) id' (g.β i)⟩, ⟨⟨h.sim.cons, fun j y hy => ?_, fun j k p q hj hk hp hq hpq => ?_⟩, h.mle, h.keep, h.size, h.os, h.tape, h.output⟩, hle, fun u hu => ?_⟩
        · by_cases e1 : j = id'
          · subst e1
            rw [upd_self] at hy; cases hy
            cases h.sim.box i _ hb with
            | arr _ _ _ p vals ty fr hp hh hn hbare hfit hsz hf hr hM hz ho =>
              exact .arr es _ fz p vals ty fr ((upd_self _ _ _).trans hp) hh hn hbare hfit hsz hf hr hM hz ho
            | nil _ _ hp => exact .nil _ _ ((upd_self _ _ _).trans hp)
          · rw [upd_ne _ _ _ _ e1] at hy
            by_cases e2 : j = i
            · subst e2
              rw [upd_self] at hy; cases hy
              exact .nil _ _ ((upd_ne _ _ _ _ e1).trans (upd_self _ _ _))
            · rw [upd_ne _ _ _ _ e2] at hy
              refine (h.sim.box j y hy).keep hle ?_ (fun _ _ => rfl) (fun _ _ _ => rfl)
              show upd (upd g.β i none) id' (g.β i) j = g.β j
              rw [upd_ne _ _ _ _ e1, upd_ne _ _ _ _ e2]
        · have back : ∀ k p, upd (upd bx i (some (.arr [] (v' + 1) false))) id' (some (.arr es (nextVer bx id') fz)) k ≠ none → upd (upd g.β i none) id' (g.β i) k = some p →
              (k = id' ∧ g.β i = some p) ∨ (k ≠ id' ∧ k ≠ i ∧ bx k ≠ none ∧ g.β k = some p) := by
            intro k p hk hp
            by_cases e1 : k = id'
            · subst e1; rw [upd_self] at hp; exact .inl ⟨rfl, hp⟩
            · rw [upd_ne _ _ _ _ e1] at hp hk
              by_cases e2 : k = i
              · subst e2; rw [upd_self] at hp; cases hp
              · rw [upd_ne _ _ _ _ e2] at hp hk; exact .inr ⟨e1, e2, hk, hp⟩
          rcases back j p hj hp with ⟨rfl, h1⟩ | ⟨a1, a2, a3, a4⟩
          · rcases back k q hk hq with ⟨rfl, h2⟩ | ⟨b1, b2, b3, b4⟩
            · rfl
            · exact absurd (h.sim.apart i k p q (by rw [hb]; simp) b3 h1 b4 hpq).symm b2
          · rcases back k q hk hq with ⟨rfl, h2⟩ | ⟨b1, b2, b3, b4⟩
            · exact absurd (h.sim.apart j i p q a3 (by rw [hb]; simp) a4 h2 hpq) a2
            · exact h.sim.apart j k p q a3 b3 a4 b4 hpq
        · cases hu with
          | refOld _ _ _ _ _ _ _ y hb' hlt => rw [hb] at hb'; cases hb'; simp only [Box.ver_arr] at hlt; omega
          | refNil _ _ _ fz' hb' hp =>
            rw [hb] at hb'; cases hb'
            exact .refNil _ _ _ _ (upd_self _ _ _) ((upd_self _ _ _).trans hp)
          | ref _ _ _ _ _ a cap es' fz' p hb' hp hsz hlen hcap ha hn =>
            rw [hb] at hb'; cases hb'
            exact .ref _ _ _ _ _ a cap es fz p (upd_self _ _ _) ((upd_self _ _ _).trans hp) hsz hlen hcap ha hn
      · cases hs
    · cases hs
  | _ => simp [mvA] at hs

theorem orSame_some {s s' : St} {x : Option St} (h : orSame s x = some s') : s' = s ∨ x = some s' := by
  cases x with
  | none => simp only [orSame, Option.some.injEq] at h; exact .inl h.symm
  | some y => exact .inr h

theorem ghost_sound {s s' : St} {gs : Gs} (hs : ghost s gs = some s') {a : Act} {w : World} (h : StOk df mg m0 w0 OO N pa pv s a w) : StOk df mg m0 w0 OO N pa pv s' a w := by
  have h0 := h
  obtain ⟨g, hi, ht, hN, hd, hpa⟩ := h
  cases gs with
  | frz t =>
    simp only [ghost] at hs
    rcases orSame_some hs with rfl | hs
    · exact h0
    simp only [Option.bind_eq_some_iff] at hs
    obtain ⟨⟨x', b⟩, h1', he⟩ := hs
    cases he
    obtain ⟨x, h1, rfl⟩ := frzA_some h1'
    obtain ⟨g', i, le, rd, _⟩ := snap_spec hi (ht.2 t) h1
    refine ⟨g', i, ?_, hN, hd, hpa.monoLe le⟩
    refine ⟨fun b o v e => le.m b o v (ht.1 b o v e), fun j => ?_⟩
    show RA g' b (upd s.tm t (.d x) j) _
    by_cases e : j = t
    · subst e; rw [upd_self]; exact .d rd
    · rw [upd_ne _ _ _ _ e]; exact (ht.2 j).mono le
  | own t id n =>
    simp only [ghost] at hs
    rcases orSame_some hs with rfl | hs
    · exact h0
    simp only [Option.bind_eq_some_iff] at hs
    obtain ⟨⟨x, b⟩, h1, he⟩ := hs
    cases he
    obtain ⟨g', i, le, hv⟩ := own_step hi h1
    exact ⟨g', i, TmOk.putG ht le hv, hN, hd, hpa.monoLe le⟩
  | frzB id j =>
    simp only [ghost] at hs
    rcases orSame_some hs with rfl | hs
    · exact h0
    simp only [Option.bind_eq_some_iff] at hs
    obtain ⟨b, h1, he⟩ := hs
    cases he
    obtain ⟨g', i, le⟩ := cellG_sound hi (fun {a x b} hf v hv => by
      obtain ⟨y, h2, rfl⟩ := frzA_some hf
      obtain ⟨g', i, le, rd, _⟩ := snap_spec hi hv h2
      exact ⟨g', i, le, .d rd⟩) h1
    exact ⟨g', i, ⟨fun b o v e => le.m b o v (ht.1 b o v e), fun k => (ht.2 k).mono le⟩, hN, hd, hpa.monoLe le⟩
  | mvT t id' =>
    simp only [ghost] at hs
    rcases orSame_some hs with rfl | hs
    · exact h0
    simp only [Option.bind_eq_some_iff] at hs
    obtain ⟨⟨x, b⟩, h1, he⟩ := hs
    cases he
    obtain ⟨g', i, le, hv⟩ := mv_step hi h1
    exact ⟨g', i, TmOk.putG ht le hv, hN, hd, hpa.monoLe le⟩
  | mvB id j id' =>
    simp only [ghost] at hs
    rcases orSame_some hs with rfl | hs
    · exact h0
    simp only [Option.bind_eq_some_iff] at hs
    obtain ⟨b, h1, he⟩ := hs
    cases he
    obtain ⟨g', i, le⟩ := cellG_sound hi (fun {a x b} hf v hv => by
      obtain ⟨g', i, le, hr⟩ := mv_step hi hf
      exact ⟨g', i, le, hr v hv⟩) h1
    exact ⟨g', i, ⟨fun b o v e => le.m b o v (ht.1 b o v e), fun k => (ht.2 k).mono le⟩, hN, hd, hpa.monoLe le⟩
  | ownB id j id' n =>
    simp only [ghost] at hs
    rcases orSame_some hs with rfl | hs
    · exact h0
    simp only [Option.bind_eq_some_iff] at hs
    obtain ⟨b, h1, he⟩ := hs
    cases he
    obtain ⟨g', i, le⟩ := cellG_sound hi (fun {a x b} hf v hv => by
      obtain ⟨g', i, le, hr⟩ := own_step hi hf
      exact ⟨g', i, le, hr v hv⟩) h1
    exact ⟨g', i, ⟨fun b o v e => le.m b o v (ht.1 b o v e), fun k => (ht.2 k).mono le⟩, hN, hd, hpa.monoLe le⟩

theorem ghosts_sound : ∀ (l : List Gs) {s s' : St}, ghosts l s = some s' → ∀ {a : Act} {w : World}, StOk df mg m0 w0 OO N pa pv s a w → StOk df mg m0 w0 OO N pa pv s' a w
  | [], s, s', hs, a, w, h => by simp only [ghosts, Option.some.injEq] at hs; subst hs; exact h
  | g :: r, s, s', hs, a, w, h => by
    simp only [ghosts, Option.bind_eq_some_iff] at hs
    obtain ⟨s1, h1, h2⟩ := hs
    exact ghosts_sound r h2 (ghost_sound h1 h)

/-! ### a map that is told, and looked at once -/
theorem Inv.other (h : Inv m0 w0 OO g bx w) {w' : World} {b0 : Nat} (hb0 : w0.heap.size ≤ b0) (hfree : ∀ id p, bx id ≠ none → g.β id = some p → p.b ≠ b0) (hm : ∀ o, g.m b0 o = none)
    (hw : ∀ b, b ≠ b0 → b < w.heap.size → w'.heap[b]? = w.heap[b]?) (hs : w.heap.size ≤ w'.heap.size) (hos : w'.os = w.os) (htape : w'.tape = w.tape) (hout : w'.output = w.output) : Inv m0 w0 OO g bx w' where
  sim := by
    have h1 : Sim g bx w' (fun b => (w0.heap.size ≤ b ∨ OO b) ∧ b < w.heap.size) := by
      refine ⟨fun b o v e => ?_, fun id x hx => ?_, h.sim.apart⟩
      · have hne : b ≠ b0 := by rintro rfl; rw [hm] at e; cases e
        have hc := h.sim.cons b o v e
        have hlt : b < w.heap.size := by
          rcases Nat.lt_or_ge b w.heap.size with hlt | hge
          · exact hlt
          · rw [h.m_new hge] at e; cases e
        simp only [World.cell?] at hc ⊢
        rw [hw b hne hlt]; exact hc
      · exact (h.sim.box id x hx).keep (Le.refl _ _) rfl (fun p hp => hw p.b (hfree id p (by rw [hx]; simp) hp) (h.sim.block (by rw [hx]; simp) hp).2.1) (fun _ _ _ => rfl)
    exact h1.own_mono fun b hb => ⟨hb.1, Nat.lt_of_lt_of_le hb.2 hs⟩
  mle := h.mle
  keep := fun b hb hO => by
    have := h.keep b hb hO
    refine ⟨(hw b (by omega) (by have := h.size.1; omega)).trans this.1, this.2⟩
  size := ⟨Nat.le_trans h.size.1 hs, fun b n e => (osz_eq (hw b (by have := osz_lt e; omega) (by have := osz_lt e; have := h.size.1; omega))).trans (h.size.2 b n e)⟩
  os := hos.trans h.os
  tape := htape.trans h.tape
  output := hout.trans h.output

/-- A state beside a map that nobody else knows. -/
def LSt (df : List Deferred) (mg m0 : Mm) (w0 : World) (O : Nat → Prop) (N : Nat) (pa : List A) (pv : List Value) (s : St) (b0 : Nat) (es : Array MapEntry) (c : Nat) (a : Act) (w : World) : Prop :=
  ∃ g, Inv m0 w0 O g s.bx w ∧ TmOk mg g s.bx s.tm a ∧ a.tmps.size = N ∧ a.defers = df ∧ RAl g s.bx pa pv ∧ w0.heap.size ≤ b0 ∧ (∀ id p, s.bx id ≠ none → g.β id = some p → p.b ≠ b0) ∧ (∀ o, g.m b0 o = none) ∧ w.heap[b0]? = some (.map es c)

theorem LSt.st {s : St} {b0 c : Nat} {es : Array MapEntry} {a : Act} (h : LSt df mg m0 w0 OO N pa pv s b0 es c a w) : StOk df mg m0 w0 OO N pa pv s a w := by
  obtain ⟨g, h1, h2, h3, h4, h5, _⟩ := h
  exact ⟨g, h1, h2, h3, h4, h5⟩

theorem TmOk.put1 {mg : Mm} {tm : Nat → A} {a : Act} (h : TmOk mg g bx tm a) {d : Nat} (hd : d < a.tmps.size) {x : A} {v : Value} (hx : RA g bx x v) : TmOk mg g bx (upd tm d x) (a.put (some d) v) := by
  refine ⟨h.1, fun t => ?_⟩
  simp only [Act.put]
  by_cases e : t = d
  · subst e
    rw [upd_self]
    have : (a.tmps.setIfInBounds t v).getD t undef = v := by simp [Array.getD_eq_getD_getElem?, hd]
    rw [this]; exact hx
  · rw [upd_ne _ _ _ _ e]
    have : (a.tmps.setIfInBounds d v).getD t undef = a.tmps.getD t undef := by
      simp [Array.getD_eq_getD_getElem?, Array.getElem?_setIfInBounds_ne (Ne.symm e)]
    rw [this]; exact h.2 t

theorem LSt.put {s : St} {b0 c d : Nat} {es : Array MapEntry} {a : Act} (h : LSt df mg m0 w0 OO N pa pv s b0 es c a w) (hd : d < N) {x : A} {v : Value} (hx : ∀ g, TmOk mg g s.bx s.tm a → RA g s.bx x v) :
    LSt df mg m0 w0 OO N pa pv ⟨upd s.tm d x, s.bx⟩ b0 es c (a.put (some d) v) w := by
  obtain ⟨g, h1, h2, h3, h4, h5, h6⟩ := h
  exact ⟨g, h1, h2.put1 (by rw [h3]; exact hd) (hx g h2), by simp [Act.put, h3], h4, h5, h6⟩

def Ent (kk vk : IntKind) (es : List MapEntry) (tbl : List (Int × Int)) : Prop := es.map (fun e => (e.key, e.val)) = tbl.map fun p => (Value.int kk p.1, Value.int vk p.2)

theorem find_ent {kk vk : IntKind} (x : Int) : ∀ (l : List MapEntry) (tbl : List (Int × Int)) (i : Nat), Ent kk vk l tbl →
    (lkpO tbl x = none → Instr.findNow (.int kk) (.int kk x) l i = some none) ∧ (∀ v, lkpO tbl x = some v → ∃ j, Instr.findNow (.int kk) (.int kk x) l i = some (some (j, .int vk v)))
  | [], [], i, h => ⟨fun _ => rfl, fun v hv => by cases hv⟩
  | [], _ :: _, i, h => by simp [Ent] at h
  | _ :: _, [], i, h => by simp [Ent] at h
  | e :: l, p :: tbl, i, h => by
    simp only [Ent, List.map_cons, List.cons.injEq, Prod.mk.injEq] at h
    obtain ⟨⟨hk, hv⟩, h⟩ := h
    obtain ⟨ih1, ih2⟩ := find_ent x l tbl (i + 1) h
    have hs : Instr.sameNow (.int kk) (.int kk x) e.key = some (x == p.1) := by rw [hk]; simp [Instr.sameNow]
    by_cases hx : p.1 = x
    · have : (x == p.1) = true := by rw [hx]; simp
      simp only [lkpO, if_pos hx, Instr.findNow, hs, this]
      exact ⟨fun h => by simp at h, fun v h => by cases h; exact ⟨i, by rw [hv]⟩⟩
    · have : (x == p.1) = false := by simpa using Ne.symm hx
      simp only [lkpO, if_neg hx, Instr.findNow, hs, this]
      exact ⟨ih1, ih2⟩

structure LitD where
  T : TypeId
  tk : TypeId
  te : TypeId
  kk : IntKind
  vk : IntKind
  ie : TypeInfo
  d0 : Nat
  d1 : Nat
  d2 : Nat
  d3 : Nat
  x : Nat
  tbl : List (Int × Int)
  raos : List Ao

structure LitOk (mg : Mm) (P : Program) (N : Nat) (ops : Array Oper) (aos : List Ao) (L : LitD) : Prop where
  hm : P.underlying L.T = some (.map L.tk L.te)
  hk : P.underlying L.tk = some (.int L.kk)
  hz : P.info? L.te = some L.ie ∧ L.ie.zero = some (.int L.vk 0)
  h0 : ∃ ty pos after, ops[0]? = some ⟨some L.d0, .makeMap L.T none, ty, pos, after, none⟩
  hi : ∀ j p, L.tbl[j]? = some p → ∃ ty pos after, ops[1 + j]? = some ⟨none, .insert L.T (.tmp L.d0) (.const (.int L.kk p.1)) (.const (.int L.vk p.2)), ty, pos, after, none⟩
  h1 : ∃ ty pos after, ops[1 + L.tbl.length]? = some ⟨some L.d1, .move (.tmp L.d0), ty, pos, after, none⟩
  h2 : ∃ ty pos after, ops[2 + L.tbl.length]? = some ⟨some L.d2, .move (.tmp L.x), ty, pos, after, none⟩
  h3 : ∃ ty pos after, ops[3 + L.tbl.length]? = some ⟨some L.d3, .lookup L.T (.tmp L.d1) (.tmp L.d2) false, ty, pos, after, none⟩
  hs : ops.size = 4 + L.tbl.length + L.raos.length
  hr : ∀ i o ao, L.raos[i]? = some ao → ops[4 + L.tbl.length + i]? = some o → FitsO mg P N ops o ao
  ha : aos = ⟨some L.d0, .mv, [.c .top], none, [], none⟩ :: ⟨some L.d1, .mv, [.c .top], none, [], none⟩ :: ⟨some L.d2, .mv, [.t L.x], none, [], none⟩ :: ⟨some L.d3, .lkp L.tbl L.kk L.vk, [.t L.d2], none, [], none⟩ :: L.raos
  lt : L.d0 < N ∧ L.d1 < N ∧ L.d2 < N ∧ L.d3 < N
  ne : L.d1 ≠ L.d2
  nd : L.tbl.Pairwise fun p q => p.1 ≠ q.1

theorem wpOps_value {ops : Array Oper} {Q : Exit → Act → World → Prop} {i : Nat} {l : List Nat} {d : Option Nat} {op : Op} {ty : TypeId} {pos : String} {after : Array Edge} {a : Act} {w w' : World} {v : Value}
    (h : ops[i]? = some ⟨d, op, ty, pos, after, none⟩) (hr : (execOp a.eval ⟨d, op, ty, pos, after, none⟩).run P w = .ok (.value v) w') (hn : wpOps P ops Q l (a.put d v) w') : wpOps P ops Q (i :: l) a w := by
  simp only [wpOps, h, Region.wanted, if_true]
  refine .inl ?_
  unfold Oper.wp
  rw [hr]; exact hn

theorem wpOps_skip {ops : Array Oper} {Q : Exit → Act → World → Prop} {i : Nat} {l : List Nat} {d : Option Nat} {op : Op} {ty : TypeId} {pos : String} {after : Array Edge} {a : Act} {w w' : World}
    (h : ops[i]? = some ⟨d, op, ty, pos, after, none⟩) (hr : (execOp a.eval ⟨d, op, ty, pos, after, none⟩).run P w = .ok .skip w') (hn : wpOps P ops Q l (a.put d undef) w') : wpOps P ops Q (i :: l) a w := by
  simp only [wpOps, h, Region.wanted, if_true]
  refine .inl ?_
  unfold Oper.wp
  rw [hr]; exact hn

theorem lkpO_none : ∀ {tbl : List (Int × Int)} {x : Int}, (∀ p ∈ tbl, p.1 ≠ x) → lkpO tbl x = none
  | [], x, _ => rfl
  | p :: r, x, h => by
    rw [lkpO, if_neg (h p (by simp))]
    exact lkpO_none fun q hq => h q (by simp [hq])

theorem ins_wp {ops : Array Oper} {aos : List Ao} {L : LitD} (hL : LitOk mg P N ops aos L) {Q : Exit → Act → World → Prop} {s : St} {b0 : Nat} {r : List Nat} : ∀ (todo done : List (Int × Int)) (es : Array MapEntry) (c : Nat) (a : Act) (w : World),
    L.tbl = done ++ todo → Ent L.kk L.vk es.toList done → a.tmps.getD L.d0 undef = .map (some b0) → LSt df mg m0 w0 OO N pa pv s b0 es c a w →
    (∀ es c w, Ent L.kk L.vk es.toList L.tbl → LSt df mg m0 w0 OO N pa pv s b0 es c a w → wpOps P ops Q r a w) → wpOps P ops Q (List.range' (1 + done.length) todo.length ++ r) a w
  | [], done, es, c, a, w, hd, he, ht, h, hK => by
    simp only [List.append_nil] at hd
    subst hd
    exact hK es c w he h
  | p :: todo, done, es, c, a, w, hd, he, ht, h, hK => by
    obtain ⟨ty, pos, after, ho⟩ := hL.hi done.length p (by rw [hd]; simp)
    have hnd := hL.nd
    rw [hd, List.pairwise_append] at hnd
    have hnone : lkpO done p.1 = none := lkpO_none fun q hq => hnd.2.2 q hq p (by simp)
    have hfind := (find_ent p.1 es.toList done 0 he).1 hnone
    have hh := h
    obtain ⟨g, h1, h2, h3, h4, h5, h6, h7, h8, h9⟩ := h
    have hlt : b0 < w.heap.size := (Array.getElem?_eq_some_iff.1 h9).1
    have hkey : MapKept.IsKey (.int L.kk) (.int L.kk p.1) := rfl
    have hrun : (execOp a.eval ⟨none, .insert L.T (.tmp L.d0) (.const (.int L.kk p.1)) (.const (.int L.vk p.2)), ty, pos, after, none⟩).run P w =
        .ok .skip { w with heap := w.heap.setIfInBounds b0 (.map (es.push { key := .int L.kk p.1, val := .int L.vk p.2, born := c }) (c + 1)) } := by
      have e0 : a.eval (.tmp L.d0) = .map (some b0) := ht
      have e1 : a.eval (.const (.int L.kk p.1)) = .int L.kk p.1 := rfl
      have e2 : a.eval (.const (.int L.vk p.2)) = .int L.vk p.2 := rfl
      simp [execOp, e0, e1, e2, Instr.mapUpdate, run_under hL.hm, MapKept.run_getObj_map h9, MapKept.run_checkKey hL.hk hkey, MapKept.run_findKey hL.hk hfind, MapKept.run_setObj_map _ h9, Result.andThen]
    rw [List.length_cons, List.range'_succ, List.cons_append]
    refine wpOps_skip ho hrun ?_
    have hput : a.put none undef = a := rfl
    rw [hput]
    have hl : 1 + done.length + 1 = 1 + (done ++ [p]).length := by simp; omega
    rw [hl]
    have hents : Ent L.kk L.vk (es.push { key := .int L.kk p.1, val := .int L.vk p.2, born := c }).toList (done ++ [p]) := by
      simp only [Ent] at he ⊢
      simp [he]
    have hother : Inv m0 w0 OO g s.bx { w with heap := w.heap.setIfInBounds b0 (.map (es.push { key := .int L.kk p.1, val := .int L.vk p.2, born := c }) (c + 1)) } := by
      refine h1.other h6 h7 h8 (fun b hb hl => ?_) (by simp) rfl rfl rfl
      simp [Array.getElem?_setIfInBounds_ne (Ne.symm hb)]
    have hat : (w.heap.setIfInBounds b0 (Obj.map (es.push { key := .int L.kk p.1, val := .int L.vk p.2, born := c }) (c + 1)))[b0]? = some (.map (es.push { key := .int L.kk p.1, val := .int L.vk p.2, born := c }) (c + 1)) := by simp [hlt]
    exact ins_wp hL todo (done ++ [p]) _ _ a _ (by rw [hd]; simp) hents ht ⟨g, hother, h2, h3, h4, h5, h6, h7, h8, hat⟩ hK

theorem range_split (n m : Nat) : List.range (4 + n + m) = 0 :: (List.range' 1 n ++ ((1 + n) :: (2 + n) :: (3 + n) :: List.range' (4 + n) m)) := by
  rw [List.range_eq_range']
  have e : 4 + n + m = 1 + (n + (3 + m)) := by omega
  rw [e, ← List.range'_append_1, ← List.range'_append_1]
  simp only [List.range'_one, List.singleton_append, Nat.zero_add]
  congr 2
  have : 3 + m = m + 1 + 1 + 1 := by omega
  rw [this, List.range'_succ, List.range'_succ, List.range'_succ]
  congr 2 <;> first | omega | (congr 1 <;> first | omega | (congr 1; omega))

theorem wpOps_tail {C : Cs} (hC : ∀ f, Meets mg P f (C f)) {ops : Array Oper} (hmg : mg.le m0) {Q : Exit → Act → World → Prop} : ∀ (aos : List Ao) (k : Nat) (s s' : St) (a : Act) (w : World), k + aos.length = ops.size →
      (∀ i o ao, aos[i]? = some ao → ops[k + i]? = some o → FitsO mg P N ops o ao) → StOk df mg m0 w0 OO N pa pv s a w → steps C aos s = some s' →
      (∀ a w, StOk df mg m0 w0 OO N pa pv s' a w → Q .normal a w) → wpOps P ops Q (List.range' k aos.length) a w
  | [], k, s, s', a, w, _, _, h, hs, hq => by
    simp only [steps, Option.some.injEq] at hs
    subst hs
    exact hq a w h
  | ao :: aos, k, s, s', a, w, hk, hf, h, hs, hq => by
    simp only [steps, Option.bind_eq_some_iff] at hs
    obtain ⟨s1, h1, h2⟩ := hs
    rw [List.length_cons] at hk
    have hi : k < ops.size := by omega
    rw [List.length_cons, List.range'_succ, wpOps_cons]
    refine step_wp hC (ao := ao) (by simp [hi]) (hf 0 ops[k] ao (by simp) (by simp [hi])) hmg h1 h fun a w h => ?_
    exact wpOps_tail hC hmg aos (k + 1) s1 s' a w (by omega) (fun i o ao' hi ho => hf (i + 1) o ao' (by simpa using hi) (by rw [← ho]; congr 1; omega)) h h2 hq

theorem wpOps_pre2 {C : Cs} (hC : ∀ f, Meets mg P f (C f)) {ops : Array Oper} (hmg : mg.le m0) {Q : Exit → Act → World → Prop} {r : List Nat} : ∀ (aos : List Ao) (k : Nat) (s s' : St) (a : Act) (w : World), k + aos.length ≤ ops.size →
      (∀ i o ao, aos[i]? = some ao → ops[k + i]? = some o → FitsO mg P N ops o ao) → StOk df mg m0 w0 OO N pa pv s a w → steps C aos s = some s' →
      (∀ a w, StOk df mg m0 w0 OO N pa pv s' a w → wpOps P ops Q r a w) → wpOps P ops Q (List.range' k aos.length ++ r) a w
  | [], k, s, s', a, w, _, _, h, hs, hq => by
    simp only [steps, Option.some.injEq] at hs
    subst hs
    exact hq a w h
  | ao :: aos, k, s, s', a, w, hk, hf, h, hs, hq => by
    simp only [steps, Option.bind_eq_some_iff] at hs
    obtain ⟨s1, h1, h2⟩ := hs
    rw [List.length_cons] at hk
    have hi : k < ops.size := by omega
    rw [List.length_cons, List.range'_succ, List.cons_append, wpOps_cons]
    refine step_wp hC (ao := ao) (by simp [hi]) (hf 0 ops[k] ao (by simp) (by simp [hi])) hmg h1 h fun a w h => ?_
    exact wpOps_pre2 hC hmg aos (k + 1) s1 s' a w (by omega) (fun i o ao' hi ho => hf (i + 1) o ao' (by simpa using hi) (by rw [← ho]; congr 1; omega)) h h2 hq

theorem lit_sound {C : Cs} (hC : ∀ f, Meets mg P f (C f)) (hmg : mg.le m0) {ops : Array Oper} {aos : List Ao} {L : LitD} (hL : LitOk mg P N ops aos L) {Q : Exit → Act → World → Prop} {s s' : St} {a : Act} {w : World}
    (h : StOk df mg m0 w0 OO N pa pv s a w) (hs : steps C aos s = some s') (hq : ∀ a w, StOk df mg m0 w0 OO N pa pv s' a w → Q .normal a w) : wpOps P ops Q (List.range ops.size) a w := by
  obtain ⟨l0, l1, l2, l3⟩ := hL.lt
  obtain ⟨t0, p0, f0, o0⟩ := hL.h0
  obtain ⟨t1, p1, f1, o1⟩ := hL.h1
  obtain ⟨t2, p2, f2, o2⟩ := hL.h2
  obtain ⟨t3, p3, f3, o3⟩ := hL.h3
  rw [hL.hs, range_split]
  obtain ⟨g, h1, h2, h3, h4, h5⟩ := h
  -- the map is made
  have run0 : (execOp a.eval ⟨some L.d0, .makeMap L.T none, t0, p0, f0, none⟩).run P w = .ok (.value (.map (some w.heap.size))) (w.alloc (.map #[] 0)) := by
    simp [execOp, Instr.makeMap, Result.andThen]
  refine wpOps_value o0 run0 ?_
  have hS0 : LSt df mg m0 w0 OO N pa pv ⟨upd s.tm L.d0 .top, s.bx⟩ w.heap.size #[] 0 (a.put (some L.d0) (.map (some w.heap.size))) (w.alloc (.map #[] 0)) := by
    refine ⟨g, h1.other h1.size.1 (fun id p hid hp => ?_) (fun o => h1.m_new (Nat.le_refl _) o) (fun b _ hb => alloc_heap _ _ _ hb) (by rw [alloc_size]; omega) rfl rfl rfl, h2.put1 (by rw [h3]; exact l0) (.top _), by simp [Act.put, h3], h4, h5, h1.size.1, fun id p hid hp => ?_, fun o => h1.m_new (Nat.le_refl _) o, alloc_heap_new _ _⟩
    · have := (h1.sim.block hid hp).2.1; omega
    · have := (h1.sim.block hid hp).2.1; omega
  have ht0 : (a.put (some L.d0) (.map (some w.heap.size))).tmps.getD L.d0 undef = .map (some w.heap.size) := by
    simp [Act.put, Array.getD_eq_getD_getElem?, h3, l0]
  generalize a.put (some L.d0) (.map (some w.heap.size)) = a0 at hS0 ht0 ⊢
  generalize w.heap.size = b0 at hS0 ht0 ⊢
  have := ins_wp hL (Q := Q) (r := (1 + L.tbl.length) :: (2 + L.tbl.length) :: (3 + L.tbl.length) :: List.range' (4 + L.tbl.length) L.raos.length) L.tbl [] #[] 0 a0 (w.alloc (.map #[] 0)) rfl rfl ht0 hS0
  refine this fun es c w1 hes hS => ?_
  -- it is looked at
  have run1 : (execOp a0.eval ⟨some L.d1, .move (.tmp L.d0), t1, p1, f1, none⟩).run P w1 = .ok (.value (.map (some b0))) w1 := by
    have e0 : a0.eval (.tmp L.d0) = .map (some b0) := ht0
    simp [execOp, e0]
  refine wpOps_value o1 run1 ?_
  have hS1 := hS.put (d := L.d1) l1 (x := .top) (v := .map (some b0)) fun g _ => .top _
  have ht1 : (a0.put (some L.d1) (.map (some b0))).tmps.getD L.d1 undef = .map (some b0) := by
    have : a0.tmps.size = N := by obtain ⟨g, _, _, h, _⟩ := hS; exact h
    simp [Act.put, Array.getD_eq_getD_getElem?, this, l1]
  generalize a0.put (some L.d1) (.map (some b0)) = a1 at hS1 ht1 ⊢
  have run2 : (execOp a1.eval ⟨some L.d2, .move (.tmp L.x), t2, p2, f2, none⟩).run P w1 = .ok (.value (a1.tmps.getD L.x undef)) w1 := by
    have e0 : a1.eval (.tmp L.x) = a1.tmps.getD L.x undef := rfl
    simp [execOp, e0]
  refine wpOps_value o2 run2 ?_
  have hS2 := hS1.put (d := L.d2) l2 (x := upd (upd s.tm L.d0 .top) L.d1 .top L.x) (v := a1.tmps.getD L.x undef) fun g h => h.2 L.x
  have ht2 : (a1.put (some L.d2) (a1.tmps.getD L.x undef)).tmps.getD L.d1 undef = .map (some b0) := by
    rw [← ht1]
    simp [Act.put, Array.getD_eq_getD_getElem?, Array.getElem?_setIfInBounds_ne (Ne.symm hL.ne)]
  generalize a1.put (some L.d2) (a1.tmps.getD L.x undef) = a2 at hS2 ht2 ⊢
  simp only at hS2
  rw [hL.ha] at hs
  simp only [steps, step, wanted, Option.bind_some, if_true, List.map_cons, List.map_nil, O.ev, sem, put', Option.bind_eq_some_iff] at hs
  obtain ⟨s3, ⟨⟨r, bx'⟩, ⟨⟨kx, nx⟩, hx, hr⟩, e3⟩, hs⟩ := hs
  simp only at hr e3 hx
  rw [upd_self] at hx
  split at hr
  · rename_i hkk
    simp only [Option.some.injEq, Prod.mk.injEq] at hr e3
    obtain ⟨rfl, rfl⟩ := hr
    subst e3 hkk
    have hv2 : a2.tmps.getD L.d2 undef = .int L.kk nx := by
      obtain ⟨g, _, htm, _⟩ := hS2
      have h := htm.2 L.d2
      simp only [upd_self] at h
      rw [asI_spec hx] at h
      generalize a2.tmps.getD L.d2 undef = vv at h
      cases h with | d h => cases h; rfl
    have hw1 : w1.heap[b0]? = some (.map es c) := by obtain ⟨g, _, _, _, _, _, _, _, _, h⟩ := hS2; exact h
    have hkey : MapKept.IsKey (.int L.kk) (.int L.kk nx) := rfl
    have run3 : (execOp a2.eval ⟨some L.d3, .lookup L.T (.tmp L.d1) (.tmp L.d2) false, t3, p3, f3, none⟩).run P w1 = .ok (.value (.int L.vk (lkpI L.tbl nx))) w1 := by
      have e1 : a2.eval (.tmp L.d1) = .map (some b0) := ht2
      have e2 : a2.eval (.tmp L.d2) = .int L.kk nx := hv2
      obtain ⟨f1, f2⟩ := find_ent nx es.toList L.tbl 0 hes
      cases hl : lkpO L.tbl nx with
      | none =>
        simp [execOp, e1, e2, Instr.lookup, run_under hL.hm, MapKept.run_getObj_map hw1, MapKept.run_checkKey hL.hk hkey, MapKept.run_findKey hL.hk (f1 hl), run_zero hL.hz.1 hL.hz.2, Result.andThen, lkpI, hl]
      | some v =>
        obtain ⟨j, hj⟩ := f2 v hl
        simp [execOp, e1, e2, Instr.lookup, run_under hL.hm, MapKept.run_getObj_map hw1, MapKept.run_checkKey hL.hk hkey, MapKept.run_findKey hL.hk hj, Result.andThen, lkpI, hl]
    refine wpOps_value o3 run3 ?_
    have hS3 := hS2.put (d := L.d3) l3 (x := .d (.int L.vk (lkpI L.tbl nx))) (v := .int L.vk (lkpI L.tbl nx)) fun g _ => .d (.int _ _)
    exact wpOps_tail hC hmg L.raos (4 + L.tbl.length) _ s' _ w1 (by rw [hL.hs]) hL.hr hS3.st hs hq
  · cases hr

/-! ### code -/
def cellD : Value → Option D
  | .bool b => some (.bool b)
  | .int k n => some (.int k n)
  | .string s => some (.str s.data.toList)
  | .slice none 0 0 => some (.sl [])
  | _ => none

def mapO {α β : Type} (f : α → Option β) : List α → Option (List β)
  | [] => some []
  | a :: r => (f a).bind fun b => (mapO f r).bind fun l => some (b :: l)

def dataD : Value → Option D
  | .agg vs => (mapO cellD vs.toList).bind fun l => some (.agg l)
  | v => cellD v

/-- what never comes to an end: any code may be left out so -/
def deadA : Ac := .cond (.c .top) .skip .skip
theorem dead_none (C : Cs) (k : Nat) (s : St) : exec C k deadA s = none := rfl
/-- a panic with a datum of type U -/
def panA (U : Nat) (v : D) : Ac := .cond (.c .top) (.ops [⟨some U, .mv, [.c (.d v)], none, [], none⟩]) .skip
theorem pan_none (C : Cs) (k : Nat) (U : Nat) (v : D) (s : St) : exec C k (panA U v) s = none := rfl
/-- The text of a panic. -/
structure PanOk (P : Program) (N : Nat) (ops : Array Oper) (U : Nat) (v : D) : Prop where
  ok : ∃ d c t0 p0 f0 e1 t1 p1 f1, ops = #[⟨some d, .makeInterface U (.const c), t0, p0, f0, none⟩, ⟨e1, .panic (.tmp d), t1, p1, f1, none⟩] ∧ d < N ∧ dataD c = some v ∧ ∃ k, P.underlying U = some (.int k)

inductive FitsA (mg : Mm) (P : Program) (N : Nat) (pb : List Id) : Code → Ac → Prop where
  | skip : FitsA mg P N pb .skip .skip
  | region (id : Nat) (ops : Array Oper) (aos : List Ao) (h : RegOk mg P N ops aos) : FitsA mg P N pb (.region id ops false) (.ops aos)
  | lit (id : Nat) (ops : Array Oper) (aos : List Ao) (L : LitD) (h : LitOk mg P N ops aos L) : FitsA mg P N pb (.region id ops false) (.ops aos)
  | draw (id : Nat) (ops : Array Oper) (aos : List Ao) (pre : Nat → Nat → Bool) (hm : P.follows .mixedOrders = true) (h : RegOk mg P N ops aos) (hd : DrawOk ops aos pre) : FitsA mg P N pb (.region id ops true) (.ops aos)
  | keep (c : Code) (a : Ac) (ts : List Nat) (bs : List Id) (hb : pb.all bs.contains = true) (h : FitsA mg P N pb c a) : FitsA mg P N pb c (.seq (.keep ts bs) a)
  | gh (c : Code) (a : Ac) (l : List Gs) (h : FitsA mg P N pb c a) : FitsA mg P N pb c (.seq (.gh l) a)
  | ghr (c : Code) (a : Ac) (l : List Gs) (h : FitsA mg P N pb c a) : FitsA mg P N pb c (.seq a (.gh l))
  | keepr (c : Code) (a : Ac) (l : List Gs) (ts : List Nat) (bs : List Id) (hb : pb.all bs.contains = true) (h : FitsA mg P N pb c a) : FitsA mg P N pb c (.seq a (.seq (.gh l) (.seq (.keep ts bs) .skip)))
  | seq (c d : Code) (a b : Ac) (h : FitsA mg P N pb c a) (k : FitsA mg P N pb d b) : FitsA mg P N pb (.seq c d) (.seq a b)
  | cond (x : Operand) (o : O) (c d : Code) (a b : Ac) (hx : FO mg x o) (h : FitsA mg P N pb c a) (k : FitsA mg P N pb d b) : FitsA mg P N pb (.cond x c d) (.cond o a b)
  | block (id : Nat) (c : Code) (a : Ac) (h : FitsA mg P N pb c a) : FitsA mg P N pb (.block id c) (.block id a)
  | loop (c : Code) (a : Ac) (h : FitsA mg P N pb c a) : FitsA mg P N pb (.loop c) (.loop a)
  | exit (id : Nat) : FitsA mg P N pb (.exit id) (.exit id)
  | ret : FitsA mg P N pb .ret .ret
  | dead (c : Code) : FitsA mg P N pb c deadA
  | split (id : Nat) (ops : Array Oper) (pre post : List Ao) (l : List Gs) (h : RegOk mg P N ops (pre ++ post)) : FitsA mg P N pb (.region id ops false) (.seq (.ops pre) (.seq (.gh l) (.ops post)))
  | pan (id : Nat) (ops : Array Oper) (U : Nat) (v : D) (h : PanOk P N ops U v) : FitsA mg P N pb (.region id ops false) (panA U v)

def Out.exit' : Out → Exit
  | .nrm => .normal
  | .exit i => .exit i
  | .ret => .ret

theorem StOk.draw {s : St} {a : Act} {w : World} (n : Nat) (h : StOk df mg m0 w0 OO N pa pv s a w) : StOk df mg m0 w0 OO N pa pv s a { w with drawn := n } := by
  obtain ⟨g, hi, ht, hN, hd, hpa⟩ := h
  exact ⟨g, hi.draw n, ht, hN, hd, hpa⟩

theorem range_map {n : Nat} {aos : List Ao} (h : n = aos.length) : ((List.range n).map fun i => aos.getD i default) = aos := by
  subst h
  apply List.ext_getElem
  · simp
  · intro i h1 h2
    simp at h1
    simp [h1]

/-- A loop that makes at most n rounds. -/
theorem wp_loop_n {Q : Exit → Act → World → Prop} {c : Code} (I : Nat → Act → World → Prop) (h0 : ∀ a w, ¬ I 0 a w) (round : ∀ n a w, I (n + 1) a w → c.wp P (Exit.then (I n) Q) a w) (n : Nat) {a : Act} {w : World}
    (h : I n a w) : (Code.loop c).wp P Q a w := by
  intro b k cs
  have key : ∀ n a w, I n a w → ∃ e a' w', Q e a' w' ∧ Arrives P (lone (b.at a (.code c :: .inLoop c :: k)) cs w) b k cs e a' w' := by
    intro n
    induction n with
    | zero => intro a w h; exact absurd h (h0 a w)
    | succ n ih =>
      intro a w hI
      obtain ⟨e, a₁, w₁, hq, harr⟩ := round n a w hI b (.inLoop c :: k) cs
      cases e with
      | normal =>
        obtain ⟨e₂, a₂, w₂, hq₂, harr₂⟩ := ih a₁ w₁ hq
        exact ⟨e₂, a₂, w₂, hq₂, .of_steps (Steps.trans harr (.one step_inLoop)) harr₂⟩
      | exit id => exact ⟨_, a₁, w₁, hq, .pass (x := .inLoop c) rfl (fun _ _ => .inl (by simp)) harr⟩
      | goto l => exact ⟨_, a₁, w₁, hq, .pass (x := .inLoop c) rfl (fun _ _ => .inl (by simp)) harr⟩
      | ret => exact ⟨_, a₁, w₁, hq, .pass (x := .inLoop c) rfl (fun _ _ => .inl (by simp)) harr⟩
      | panic ch => exact ⟨_, a₁, w₁, hq, .pass (x := .inLoop c) rfl (fun _ _ => .inl (by simp)) harr⟩
      | outgrown => exact ⟨_, a₁, w₁, hq, .pass (x := .inLoop c) rfl (fun _ _ => .inl (by simp)) harr⟩
  obtain ⟨e, a', w', hq, harr⟩ := key n a w h
  exact ⟨e, a', w', hq, .of_steps (.one step_loop) harr⟩

theorem exec_sound {C : Cs} (hC : ∀ f, Meets mg P f (C f)) (hmg : mg.le m0) {pb : List Id} (hin : inB.go pb pa = true) {k : Nat} {c : Code} {ac : Ac} (hf : FitsA mg P N pb c ac) : ∀ {s : St} {p : Out × St} {Q : Exit → Act → World → Prop}, exec C k ac s = some p →
    (∀ a w, StOk df mg m0 w0 OO N pa pv p.2 a w → Q p.1.exit' a w) → ∀ a w, StOk df mg m0 w0 OO N pa pv s a w → c.wp P Q a w := by
  induction hf with
  | skip =>
    intro s p Q hs hq a w h
    simp only [exec, Option.some.injEq] at hs; subst hs
    exact wp_skip (hq a w h)
  | region id ops aos hr =>
    intro s p Q hs hq a w h
    simp only [exec, Option.bind_eq_some_iff] at hs
    obtain ⟨s', hs', he⟩ := hs; cases he
    exact wp_region (wpOps_sound hC hr hmg _ s s' a w (fun i hi => List.mem_range.1 hi) h (by rw [range_map hr.size]; exact hs') hq)
  | lit id ops aos L hL =>
    intro s p Q hs hq a w h
    simp only [exec, Option.bind_eq_some_iff] at hs
    obtain ⟨s', hs', he⟩ := hs; cases he
    exact wp_region (lit_sound hC hmg hL h hs' hq)
  | draw id ops aos pre hm hr hd =>
    intro s p Q hs hq a w h
    simp only [exec, Option.bind_eq_some_iff] at hs
    obtain ⟨s', hs', he⟩ := hs; cases he
    have e : Es.rest ops.size (Array.replicate ops.size false) = List.range ops.size := by
      simp only [Es.rest]
      rw [List.filter_eq_self]
      intro i hi
      rw [List.mem_range] at hi
      simp [hi]
    exact wp_region_any hm (wpAny_sound' hC hr hd hmg _ _ s s' a _ (by simp) (fun k hk j hj => by
      exfalso
      by_cases hlt : k < ops.size
      · simp [hlt] at hk
      · simp [hlt] at hk) (by rw [e]; simp) (h.draw _) (by rw [e, range_map hr.size]; exact hs') hq)
  | keep c a ts bs hb _ ih =>
    intro s p Q hs hq ac w h
    simp only [exec, Option.bind_eq_some_iff] at hs
    obtain ⟨q, ⟨s1, h1, he⟩, h2⟩ := hs
    cases he
    exact ih h2 hq ac w (keepA_sound hb hin h1 h)
  | gh c a l _ ih =>
    intro s p Q hs hq ac w h
    simp only [exec, Option.bind_eq_some_iff] at hs
    obtain ⟨q, ⟨s1, h1, he⟩, h2⟩ := hs
    cases he
    exact ih h2 hq ac w (ghosts_sound l h1 h)
  | ghr c a l _ ih =>
    intro s p Q hs hq ac w h
    simp only [exec, Option.bind_eq_some_iff] at hs
    obtain ⟨⟨o, s1⟩, h1, h2⟩ := hs
    refine ih h1 (fun a w h => ?_) ac w h
    cases o with
    | nrm =>
      simp only [Option.bind_eq_some_iff] at h2
      obtain ⟨s2, h3, he⟩ := h2
      cases he
      exact hq a w (ghosts_sound l h3 h)
    | exit i => simp only [Option.some.injEq] at h2; subst h2; exact hq a w h
    | ret => simp only [Option.some.injEq] at h2; subst h2; exact hq a w h
  | keepr c a l ts bs hb _ ih =>
    intro s p Q hs hq ac w h
    simp only [exec, Option.bind_eq_some_iff] at hs
    obtain ⟨⟨o, s1⟩, h1, h2⟩ := hs
    refine ih h1 (fun a w h => ?_) ac w h
    cases o with
    | nrm =>
      simp only [Option.bind_eq_some_iff] at h2
      obtain ⟨q2, ⟨s2, h3, he⟩, h4⟩ := h2
      cases he
      simp only [Option.bind_eq_some_iff] at h4
      obtain ⟨q3, ⟨s3, h5, he⟩, h6⟩ := h4
      cases he
      simp only [Option.some.injEq] at h6
      subst h6
      exact hq a w (keepA_sound hb hin h5 (ghosts_sound l h3 h))
    | exit i => simp only [Option.some.injEq] at h2; subst h2; exact hq a w h
    | ret => simp only [Option.some.injEq] at h2; subst h2; exact hq a w h
  | seq c d a b _ _ ih1 ih2 =>
    intro s p Q hs hq ac w h
    simp only [exec, Option.bind_eq_some_iff] at hs
    obtain ⟨⟨o, s1⟩, h1, h2⟩ := hs
    refine wp_seq (ih1 h1 (fun a w h => ?_) ac w h)
    cases o with
    | nrm => exact ih2 h2 hq a w h
    | exit i => simp only [Option.some.injEq] at h2; subst h2; exact hq a w h
    | ret => simp only [Option.some.injEq] at h2; subst h2; exact hq a w h
  | cond x o c d a b hx _ _ ih1 ih2 =>
    intro s p Q hs hq ac w h
    simp only [exec, Option.bind_eq_some_iff] at hs
    obtain ⟨t, ht, hs⟩ := hs
    have hx' : ac.eval x = .bool t := by
      obtain ⟨g, _, htm, _⟩ := h
      have := hx.ra htm
      rw [asB_spec ht] at this
      exact this.bool_inv
    refine wp_cond hx' ?_
    cases t with
    | true => exact ih1 hs hq ac w h
    | false => exact ih2 hs hq ac w h
  | block id c a _ ih =>
    intro s p Q hs hq ac w h
    simp only [exec, Option.bind_eq_some_iff] at hs
    obtain ⟨⟨o, s1⟩, h1, h2⟩ := hs
    refine wp_block (ih h1 (fun a w h => ?_) ac w h)
    cases o with
    | nrm => simp only [Option.some.injEq] at h2; subst h2; exact hq a w h
    | exit i =>
      simp only at h2
      simp only [Out.exit', Exit.inBlock]
      split at h2
      · rename_i e
        simp only [Option.some.injEq] at h2; subst h2
        rw [if_pos e]; exact hq a w h
      · rename_i e
        simp only [Option.some.injEq] at h2; subst h2
        rw [if_neg e]; exact hq a w h
    | ret => simp only [Option.some.injEq] at h2; subst h2; exact hq a w h
  | loop c a _ ih =>
    intro s p Q hs hq ac w h
    simp only [exec] at hs
    refine wp_loop_n (fun n a' w' => ∃ s', StOk df mg m0 w0 OO N pa pv s' a' w' ∧ iter (exec C k a) n s' = some p) ?_ ?_ k ⟨s, h, hs⟩
    · rintro a' w' ⟨s', _, h⟩
      simp [iter] at h
    · rintro n a' w' ⟨s', hs', hit⟩
      simp only [iter, Option.bind_eq_some_iff] at hit
      obtain ⟨⟨o, s1⟩, h1, h2⟩ := hit
      refine ih h1 (fun a2 w2 h => ?_) a' w' hs'
      cases o with
      | nrm => exact ⟨s1, h, h2⟩
      | exit i => simp only [Option.some.injEq] at h2; subst h2; exact hq a2 w2 h
      | ret => simp only [Option.some.injEq] at h2; subst h2; exact hq a2 w2 h
  | exit id =>
    intro s p Q hs hq a w h
    simp only [exec, Option.some.injEq] at hs; subst hs
    exact wp_exit (hq a w h)
  | ret =>
    intro s p Q hs hq a w h
    simp only [exec, Option.some.injEq] at hs; subst hs
    exact wp_ret (hq a w h)
  | dead c => intro s p Q hs; rw [dead_none] at hs; cases hs
  | pan id ops U v _ => intro s p Q hs; rw [pan_none] at hs; cases hs
  | split id ops pre post l hr =>
    intro s p Q hs hq a w h
    simp only [exec, Option.bind_eq_some_iff] at hs
    obtain ⟨q1, ⟨s1, h1, e1⟩, hs⟩ := hs
    cases e1
    simp only [Option.bind_eq_some_iff] at hs
    obtain ⟨q2, ⟨s2, h2, e2⟩, hs⟩ := hs
    cases e2
    simp only [Option.bind_eq_some_iff] at hs
    obtain ⟨s3, h3, e3⟩ := hs
    cases e3
    have hsz := hr.size
    rw [List.length_append] at hsz
    refine wp_region ?_
    have hrange : List.range ops.size = List.range' 0 pre.length ++ List.range' (0 + pre.length) post.length := by
      rw [hsz, List.range_eq_range', List.range'_append_1]
    rw [hrange, Nat.zero_add]
    refine wpOps_pre2 hC hmg pre 0 s s1 a w (by omega) (fun i o ao h1 h2 => hr.fits (0 + i) o ao h2 (by rw [Nat.zero_add, List.getElem?_append_left (List.getElem?_eq_some_iff.1 h1).1]; exact h1)) h h1 fun a w h => ?_
    exact wpOps_tail hC hmg post pre.length s2 s3 a w (by omega) (fun i o ao h1 h2 => hr.fits (pre.length + i) o ao h2 (by rw [List.getElem?_append_right (by omega)]; simpa using h1)) (ghosts_sound l h2 h) h3 hq

end Go.Es

namespace Go.Es

variable {mg m0 : Mm} {w0 : World} {OO : Nat → Prop} {g : Gh} {bx : Bx} {w : World} {P : Program} {N : Nat}

/-! ### functions -/
inductive ResOk (P : Program) : List ResultVar → List Rv → Prop where
  | nil : ResOk P [] []
  | tmp (t : Nat) (rs : List ResultVar) (ss : List Rv) (h : ResOk P rs ss) : ResOk P (.tmp t :: rs) (.t t :: ss)
  | cell (a ty : Nat) (agg : Option Nat) (rs : List ResultVar) (ss : List Rv) (ha : AggOk P ty agg) (h : ResOk P rs ss) : ResOk P (.cell a ty :: rs) (.c a agg :: ss)

def resOne (tmps : Array Value) : ResultVar → Sem Value
  | .tmp t => pure (tmps.getD t undef)
  | .cell a t => do loadVar t (← asAddr (tmps.getD a undef))

theorem loadAt_asAddr {t : TypeId} {v y : Value} (h : (Instr.loadAt t v).run P w = .ok y w) : (do loadVar t (← asAddr v) : Sem Value).run P w = .ok y w := by
  have stuckless : ∀ {x : Value}, (∀ a, x ≠ .pointer (some a)) → Instr.sureAddr x = stuck "an address expected (no nilCheck in front?)" := by
    intro x hx
    unfold Instr.sureAddr
    split
    · rename_i a; exact absurd rfl (hx a)
    · rfl
  by_cases hv : ∃ a, v = .pointer (some a)
  · obtain ⟨a, rfl⟩ := hv
    exact h
  · rw [Instr.loadAt, stuckless (fun a e => hv ⟨a, e⟩)] at h
    simp [Sem.run_bind] at h

theorem results_spec {s : St} {a : Act} {w : World} (hi : Inv m0 w0 OO g s.bx w) (ht : TmOk mg g s.bx s.tm a) : ∀ {rs : List ResultVar} {ss : List Rv} {as : List A}, ResOk P rs ss → ress s ss = some as →
    ∃ us, RAl g s.bx as us ∧ (rs.mapM (resOne a.tmps)).run P w = .ok us w
  | _, _, as, .nil, h => by
    simp only [ress, Option.some.injEq] at h; subst h
    exact ⟨[], .nil, by simp⟩
  | _, _, as, .tmp t rs ss hr, h => by
    simp only [ress, resA, Option.bind_some, Option.bind_eq_some_iff] at h
    obtain ⟨l, hl, he⟩ := h
    cases he
    obtain ⟨us, h1, h2⟩ := results_spec hi ht hr hl
    refine ⟨_ :: us, .cons (ht.2 t) h1, ?_⟩
    simp only [List.mapM_cons, resOne, pure_bind, Sem.run_bind, h2, Result.andThen_ok, Sem.run_pure]
  | _, _, as, .cell t ty agg rs ss ha hr, h => by
    simp only [ress, resA, Option.bind_eq_some_iff] at h
    obtain ⟨x, hx, l, hl, he⟩ := h
    cases he
    obtain ⟨y, hy, hry⟩ := load_spec (P := P) hi (ht.2 t) hx ha
    obtain ⟨us, h1, h2⟩ := results_spec hi ht hr hl
    refine ⟨_ :: us, .cons hry h1, ?_⟩
    have hy' := loadAt_asAddr hy
    rw [Sem.run_bind] at hy'
    simp only [List.mapM_cons, resOne, Sem.run_bind]
    rw [hy']
    simp only [Result.andThen_ok, Sem.run_bind, h2, Sem.run_pure]

/-- The machine's function, and the interpreter's. -/
structure FnOk (mg : Mm) (P : Program) (f : Nat) (F : Fn) : Prop where
  fn : ∃ fn c, P.funcs[f]? = some fn ∧ fn.body = some c ∧ (fn.name == "runtime.NumGoroutine") = false ∧ F.np ≤ fn.ntmps ∧ FitsA mg P fn.ntmps F.pb c F.body ∧ ResOk P fn.results.toList F.rs

theorem tmOf_spec : ∀ {as : List A} {vs : List Value} {j n : Nat}, RAl g bx as vs → j ≤ n → RA g bx (tmOf as j n) (vs.getD (n - j) undef)
  | _, _, j, n, .nil, _ => .tup [] #[] rfl (fun j hj => by simp at hj)
  | _, _, j, n, .cons (a := a) (r := r) h k, hjn => by
    simp only [tmOf]
    split
    · rename_i e; subst e; simpa using h
    · rename_i e
      have := tmOf_spec (j := j + 1) (n := n) k (by omega)
      rw [show n - j = (n - (j + 1)) + 1 from by omega]
      simpa using this

/-- From the first state on, whatever its arguments are looked at as. -/
theorem runV_meets {C : Cs} (hC : ∀ f, Meets mg P f (C f)) {f : Nat} {F : Fn} (hf : FnOk mg P f F) {k : Nat} {m : Mm} {w : World} {vs : List Value} {bs : List Nat} {tv pa : List A} {bx0 : Bx} {g : Gh} {r : T} {args' : List T}
    (hmg : mg.le m) (hi : Inv m w (· ∈ bs) g bx0 w) (htv : RAl g bx0 tv vs) (hv : RAl g bx0 pa vs) (hvl : vs.length = F.np) (hs : runV C k F tv pa bx0 = some (r, args')) :
    Does P f vs.toArray w fun e w' => ∃ v m' rbs abs, e = .returned v ∧ After m w bs m' w' r v args' vs rbs abs := by
  obtain ⟨fn, c, h1, h2, h3, h4, h5, h6⟩ := hf.fn
  simp only [runV, Option.bind_eq_some_iff] at hs
  obtain ⟨⟨o, s'⟩, he, hs⟩ := hs
  refine .inl ⟨⟨fn, h1, by rw [h2]; rfl, h3⟩, calls_of_wp h1 h2 ?_⟩
  have hst : StOk [] mg m w (· ∈ bs) fn.ntmps pa vs ⟨tmOf tv 0, bx0⟩ { tmps := vs.toArray ++ Array.replicate (fn.ntmps - vs.toArray.size) undef, defers := [] } w := by
    refine ⟨g, hi, ⟨fun b o v h => hi.mle _ _ _ (hmg _ _ _ h), fun t => ?_⟩, by simp; omega, rfl, hv⟩
    have := tmOf_spec (j := 0) (n := t) htv (Nat.zero_le _)
    have e : (vs.toArray ++ Array.replicate (fn.ntmps - vs.toArray.size) undef).getD t undef = vs.getD (t - 0) undef := by
      rw [Array.getD_eq_getD_getElem?, Array.getElem?_append, List.getD_eq_getElem?_getD]
      simp only [List.size_toArray, Nat.sub_zero, List.getElem?_toArray]
      split
      · rfl
      · rename_i hlt
        rw [List.getElem?_eq_none (by omega)]
        by_cases h : t - vs.length < fn.ntmps - vs.length
        · simp [h]
        · simp [h]
    rw [e]; exact this
  have hs' : (o = .nrm ∨ o = .ret) ∧ ((ress s' F.rs).bind fun rs => (outs1 (if F.mvp then 0 else F.np) s'.bx rs).bind fun o => endV F o pa) = some (r, args') := by
    cases o with
    | nrm => exact ⟨.inl rfl, hs⟩
    | ret => exact ⟨.inr rfl, hs⟩
    | exit i => cases hs
  obtain ⟨hor, hs'⟩ := hs'
  simp only [Option.bind_eq_some_iff] at hs'
  obtain ⟨rs, hrs, ⟨ts, b1⟩, ho1, hs'⟩ := hs'
  simp only [endV] at hs'
  split at hs'
  · cases hs'
  rename_i hap
  simp only [Bool.not_eq_true', Bool.not_eq_false, Bool.and_eq_true] at hap
  simp only [Option.bind_eq_some_iff] at hs'
  obtain ⟨⟨ps, b2⟩, hp, hres⟩ := hs'
  cases hres
  have fin : ∀ (a : Act) (w' : World), StOk [] mg m w (· ∈ bs) fn.ntmps pa vs s' a w' → a.defers = [] ∧ ∃ v, (results fn a.tmps).run P w' = .ok v w' ∧
      ∃ v' m' rbs abs, Ending.returned v = .returned v' ∧ After m w bs m' w' (one ts) v' ps vs rbs abs := by
    intro a w' ⟨g', hi', ht', hN', hd', hpa'⟩
    obtain ⟨us, hu, hrun⟩ := results_spec hi' ht' h6 hrs
    obtain ⟨m', rbs, abs, haf⟩ := leave_spec hi' hu (lendP_ral hpa') ho1 hap.1 hp
    refine ⟨hd', _, ?_, _, m', rbs, abs, rfl, haf⟩
    have e : (fn.results.mapM (resOne a.tmps)).run P w' = .ok us.toArray w' := by
      have : fn.results.mapM (resOne a.tmps) = List.toArray <$> fn.results.toList.mapM (resOne a.tmps) := by
        rw [← List.mapM_toArray, Array.toArray_toList]
      rw [this, map_eq_pure_bind, Sem.run_bind, hrun]
      simp
    have er : results fn a.tmps = (do let vs ← fn.results.mapM (resOne a.tmps); pure (if h : vs.size = 1 then vs[0] else .tuple vs)) := by
      unfold results resOne
      congr 2
    rw [er, Sem.run_bind, e]
    simp only [Result.andThen_ok, Sem.run_pure]
  refine exec_sound (m0 := m) (w0 := w) (OO := (· ∈ bs)) hC hmg hap.2 h5 he (fun a w' hst => ?_) _ _ hst
  rcases hor with rfl | rfl
  · exact fin a w' hst
  · exact fin a w' hst

theorem emptyRes_spec {x : Option (T × List T)} {n : Nat} (h : emptyRes x = some n) : x = some (.arr false n [], [.d (.sl [])]) := by
  unfold emptyRes at h
  split at h
  · cases h; rfl
  · cases h

/-- A slice that is nil has any size. -/
theorem RT.resize {m : Mm} {w : World} {v : Value} {bs : List Nat} (n : Nat) (h : RT m w (.arr false 0 []) v bs) : RT m w (.arr false n []) v bs := by
  cases h with | one h =>
  cases h with | cell h =>
  cases h with
  | nil => exact .one (.cell (.nil _ _))
  | arr _ _ _ b a base cap vals ty fr hh hbare hfit hs hf hr hm hz hcap hn ha h0 => exact absurd rfl h0

theorem fn_meets {C : Cs} (hC : ∀ f, Meets mg P f (C f)) {f : Nat} {F : Fn} (hf : FnOk mg P f F) (k : Nat) : Meets mg P f (fun args => run C k F args) := by
  intro m w args vs bs hmg hc hr hn ho r args' hs
  have main : run1 C k F args = some (r, args') → Does P f vs.toArray w fun e w' => ∃ v m' rbs abs, e = .returned v ∧ After m w bs m' w' r v args' vs rbs abs := by
    intro hs
    simp only [run1] at hs
    split at hs
    · rename_i hlen
      simp only [Option.bind_eq_some_iff] at hs
      obtain ⟨⟨as, bx0⟩, ha, hs⟩ := hs
      obtain ⟨g, hi, hv⟩ := enter_spec hc hr hn ho ha
      exact runV_meets hC hf hmg hi hv hv (by rw [← hr.length, hlen]) hs
    · cases hs
  simp only [run] at hs
  split at hs
  · rename_i hsp
    simp only [run0] at hs
    split at hs
    · rename_i hnp
      simp only [Option.bind_eq_some_iff] at hs
      obtain ⟨n, h1, n', h2, hs⟩ := hs
      split at hs
      · rename_i he
        cases hs
        have e1 := emptyRes_spec h1
        have e2 := emptyRes_spec h2
        have ha : takesP (fun _ => none) 0 [.d (.sl [])] = some ([.d (.sl [])], fun _ => none) := rfl
        obtain ⟨g, hi, hv⟩ := enter_spec hc hr hn ho ha
        have hvl : vs.length = F.np := by rw [← hr.length, hnp]; rfl
        cases hv with
        | cons hv0 hv1 =>
          cases hv1
          cases hv0 with | d hd =>
          cases hd with
          | sl0 a cap hcap =>
            cases a with
            | some a => exact runV_meets hC hf hmg hi (.cons (.empt a cap) .nil) (.cons (.d (.sl0 _ _ (fun h => by cases h))) .nil) hvl e2
            | none =>
              obtain rfl := hcap rfl
              have hd := runV_meets hC hf hmg hi (.cons .nils .nil) (.cons (.d (.sl0 _ _ (fun _ => rfl))) .nil) hvl e1
              rcases he with rfl | rfl
              · exact hd
              · exact hd.mono fun e w' ⟨v, m', rbs, abs, h1, h2⟩ => ⟨v, m', rbs, abs, h1, { h2 with res := h2.res.resize _ }⟩
          | sl _ b o cap sz u hcap hsz hm hf' hr' => exact runV_meets hC hf hmg hi (.cons (.empt _ _) .nil) (.cons (.d (.sl [] b o cap sz u hcap hsz hm hf' hr')) .nil) hvl e2
      · cases hs
    · cases hs
  · exact main hs

end Go.Es

namespace Go.Es

/-! ### the whole program -/
def Cs.le (C C' : Cs) : Prop := ∀ f a r, C f a = some r → C' f a = some r

theorem callA_mono {C C' : Cs} (h : C.le C') {av : List Id} {al : Option (List Id)} {b : Bx} {id : Id} {f : Nat} {xs : List A} {p : A × Bx} (hs : callA C av al b id f xs = some p) : callA C' av al b id f xs = some p := by
  simp only [callA, callB] at hs ⊢
  split at hs
  · cases hs
  · rename_i hc
    rw [if_neg hc]
    simp only [Option.bind_eq_some_iff] at hs ⊢
    obtain ⟨q, h1, r, h2, rest⟩ := hs
    exact ⟨q, h1, r, h _ _ _ h2, rest⟩

theorem sem_other (C C' : Cs) (o : Ao) (xs : List A) (b : Bx) (h1 : ∀ f, o.k ≠ .callf f) (h2 : o.k ≠ .callv) : sem C o xs b = sem C' o xs b := by
  obtain ⟨d, k, os, gg, av, al⟩ := o
  simp only at h1 h2
  unfold sem
  dsimp only
  split <;> first | rfl | exact absurd rfl (h1 _) | exact absurd rfl h2

theorem semC_callf (C : Cs) (d : Option Nat) (f : Nat) (os : List O) (gg : Option (Nat × Bool)) (av : List Id) (al : Option (List Id)) (xs : List A) (b : Bx) :
    sem C ⟨d, .callf f, os, gg, av, al⟩ xs b = callA C av al b [d.getD 0] f xs := by
  cases xs <;> rfl

theorem semC_callv (C : Cs) (d : Option Nat) (os : List O) (gg : Option (Nat × Bool)) (av : List Id) (al : Option (List Id)) (xs : List A) (b : Bx) :
    sem C ⟨d, .callv, os, gg, av, al⟩ xs b = match xs with | .fn f caps :: r => callA C av al b [d.getD 0] f (r ++ caps) | _ => none := by
  cases xs with
  | nil => rfl
  | cons x r => cases x <;> rfl

theorem sem_mono {C C' : Cs} (h : C.le C') {o : Ao} {xs : List A} {b : Bx} {p : A × Bx} (hs : sem C o xs b = some p) : sem C' o xs b = some p := by
  obtain ⟨d, k, os, gg, av, al⟩ := o
  by_cases h1 : ∃ f, k = .callf f
  · obtain ⟨f, rfl⟩ := h1
    rw [semC_callf] at hs ⊢
    exact callA_mono h hs
  by_cases h2 : k = .callv
  · subst h2
    rw [semC_callv] at hs ⊢
    split at hs
    · exact callA_mono h hs
    · cases hs
  rw [← hs]
  exact (sem_other C C' _ xs b (fun f e => h1 ⟨f, e⟩) h2).symm

theorem step_mono {C C' : Cs} (h : C.le C') {o : Ao} {s s' : St} (hs : step C o s = some s') : step C' o s = some s' := by
  simp only [step, Option.bind_eq_some_iff] at hs ⊢
  obtain ⟨w, h1, h2⟩ := hs
  refine ⟨w, h1, ?_⟩
  cases w with
  | false => exact h2
  | true =>
    simp only [if_true, Option.bind_eq_some_iff] at h2 ⊢
    obtain ⟨p, h3, h4⟩ := h2
    exact ⟨p, sem_mono h h3, h4⟩

theorem steps_mono {C C' : Cs} (h : C.le C') : ∀ {l : List Ao} {s s' : St}, steps C l s = some s' → steps C' l s = some s'
  | [], _, _, hs => hs
  | o :: l, s, s', hs => by
    simp only [steps, Option.bind_eq_some_iff] at hs ⊢
    obtain ⟨s1, h1, h2⟩ := hs
    exact ⟨s1, step_mono h h1, steps_mono h h2⟩

theorem iter_mono {f f' : St → Option (Out × St)} (h : ∀ s p, f s = some p → f' s = some p) : ∀ {k k' : Nat} {s : St} {p : Out × St}, k ≤ k' → iter f k s = some p → iter f' k' s = some p
  | 0, _, _, _, _, hs => by simp [iter] at hs
  | k + 1, 0, _, _, hk, _ => by omega
  | k + 1, k' + 1, s, p, hk, hs => by
    simp only [iter, Option.bind_eq_some_iff] at hs ⊢
    obtain ⟨⟨o, s1⟩, h1, h2⟩ := hs
    refine ⟨(o, s1), h _ _ h1, ?_⟩
    cases o with
    | nrm => exact iter_mono h (by omega) h2
    | exit i => exact h2
    | ret => exact h2

theorem exec_mono {C C' : Cs} (h : C.le C') {k k' : Nat} (hk : k ≤ k') : ∀ {c : Ac} {s : St} {p : Out × St}, exec C k c s = some p → exec C' k' c s = some p := by
  intro c
  induction c with
  | skip => intro s p hs; exact hs
  | ops l =>
    intro s p hs
    simp only [exec, Option.bind_eq_some_iff] at hs ⊢
    obtain ⟨s', h1, h2⟩ := hs
    exact ⟨s', steps_mono h h1, h2⟩
  | keep ts bs => intro s p hs; exact hs
  | gh l => intro s p hs; exact hs
  | seq a b iha ihb =>
    intro s p hs
    simp only [exec, Option.bind_eq_some_iff] at hs ⊢
    obtain ⟨⟨o, s1⟩, h1, h2⟩ := hs
    refine ⟨(o, s1), iha h1, ?_⟩
    cases o with
    | nrm => exact ihb h2
    | exit i => exact h2
    | ret => exact h2
  | cond x a b iha ihb =>
    intro s p hs
    simp only [exec, Option.bind_eq_some_iff] at hs ⊢
    obtain ⟨t, h1, h2⟩ := hs
    refine ⟨t, h1, ?_⟩
    cases t with
    | true => exact iha h2
    | false => exact ihb h2
  | block id c ih =>
    intro s p hs
    simp only [exec, Option.bind_eq_some_iff] at hs ⊢
    obtain ⟨q, h1, h2⟩ := hs
    exact ⟨q, ih h1, h2⟩
  | loop c ih =>
    intro s p hs
    simp only [exec] at hs ⊢
    exact iter_mono (fun s p hs => ih hs) hk hs
  | exit id => intro s p hs; exact hs
  | ret => intro s p hs; exact hs

theorem runV_mono {C C' : Cs} (h : C.le C') {k k' : Nat} (hk : k ≤ k') {F : Fn} {tv pa : List A} {bx : Bx} {r : T × List T} (hs : runV C k F tv pa bx = some r) : runV C' k' F tv pa bx = some r := by
  simp only [runV, Option.bind_eq_some_iff] at hs ⊢
  obtain ⟨q, h2, h3⟩ := hs
  exact ⟨q, exec_mono h hk h2, h3⟩

theorem run_mono {C C' : Cs} (h : C.le C') {k k' : Nat} (hk : k ≤ k') {F : Fn} {args : List T} {r : T × List T} (hs : run C k F args = some r) : run C' k' F args = some r := by
  have main : ∀ {r}, run1 C k F args = some r → run1 C' k' F args = some r := by
    intro r hs
    simp only [run1] at hs ⊢
    split at hs
    · rename_i hl
      rw [if_pos hl]
      simp only [Option.bind_eq_some_iff] at hs ⊢
      obtain ⟨p, h1, h2⟩ := hs
      exact ⟨p, h1, runV_mono h hk h2⟩
    · cases hs
  simp only [run] at hs ⊢
  split at hs
  · simp only [run0] at hs ⊢
    split at hs
    · rename_i hn
      rw [if_pos hn]
      simp only [Option.bind_eq_some_iff] at hs ⊢
      obtain ⟨n, h1, m, h2, h3⟩ := hs
      refine ⟨n, ?_, m, ?_, h3⟩
      · rw [runV_mono h hk (emptyRes_spec h1)]; rfl
      · rw [runV_mono h hk (emptyRes_spec h2)]; rfl
    · cases hs
  · exact main hs

/-- The program, n calls deep and n rounds long. -/
def prog (F : Nat → Option Fn) (X : Cs) : Nat → Cs
  | 0 => fun _ _ => none
  | n + 1 => fun f args => match F f with
    | some fn => run (prog F X n) n fn args
    | none => X f args

theorem prog_succ (F : Nat → Option Fn) (X : Cs) : ∀ n, Cs.le (prog F X n) (prog F X (n + 1))
  | 0 => fun f a r h => by simp [prog] at h
  | n + 1 => fun f a r h => by
    simp only [prog] at h ⊢
    cases hf : F f with
    | none => simpa only [hf] using h
    | some fn =>
      simp only [hf] at h ⊢
      exact run_mono (prog_succ F X n) (Nat.le_succ n) h

theorem prog_mono (F : Nat → Option Fn) (X : Cs) {n m : Nat} (h : n ≤ m) : Cs.le (prog F X n) (prog F X m) := by
  induction h with
  | refl => exact fun f a r h => h
  | step _ ih => exact fun f a r h => prog_succ F X _ f a r (ih f a r h)

open Classical in
/-- What the functions answer. -/
noncomputable def lim (F : Nat → Option Fn) (X : Cs) : Cs := fun f args =>
  if h : ∃ r n, prog F X n f args = some r then some h.choose else none

theorem lim_iff {F : Nat → Option Fn} {X : Cs} {f : Nat} {args : List T} {r : T × List T} : lim F X f args = some r ↔ ∃ n, prog F X n f args = some r := by
  unfold lim
  constructor
  · intro h
    split at h
    · rename_i hx
      cases h
      exact hx.choose_spec
    · cases h
  · rintro ⟨n, h⟩
    have hx : ∃ r n, prog F X n f args = some r := ⟨r, n, h⟩
    rw [dif_pos hx]
    obtain ⟨m, hm⟩ := hx.choose_spec
    have h1 := prog_mono F X (Nat.le_max_left n m) _ _ _ h
    have h2 := prog_mono F X (Nat.le_max_right n m) _ _ _ hm
    rw [h1] at h2
    exact congrArg some (Option.some.inj h2).symm

section
variable {F : Nat → Option Fn} {X : Cs}

theorem step_lim {o : Ao} {s s' : St} (hs : step (lim F X) o s = some s') : ∃ n, step (prog F X n) o s = some s' := by
  have call : ∀ {av al b id f xs} {p : A × Bx}, callA (lim F X) av al b id f xs = some p → ∃ n, callA (prog F X n) av al b id f xs = some p := by
    intro av al b id f xs p h
    simp only [callA, callB] at h ⊢
    split at h
    · cases h
    · rename_i hc
      simp only [Option.bind_eq_some_iff] at h
      obtain ⟨q, h1, r, h2, rest⟩ := h
      obtain ⟨n, hn⟩ := lim_iff.1 h2
      refine ⟨n, ?_⟩
      rw [if_neg hc]
      simp only [Option.bind_eq_some_iff]
      exact ⟨q, h1, r, hn, rest⟩
  have sem' : ∀ {xs b} {p : A × Bx}, sem (lim F X) o xs b = some p → ∃ n, sem (prog F X n) o xs b = some p := by
    intro xs b p h
    obtain ⟨d, k, os, gg, av, al⟩ := o
    by_cases h1 : ∃ f, k = .callf f
    · obtain ⟨f, rfl⟩ := h1
      rw [semC_callf] at h
      obtain ⟨n, hn⟩ := call h
      exact ⟨n, by rw [semC_callf]; exact hn⟩
    by_cases h2 : k = .callv
    · subst h2
      rw [semC_callv] at h
      split at h
      · obtain ⟨n, hn⟩ := call h
        exact ⟨n, by rw [semC_callv]; exact hn⟩
      · cases h
    exact ⟨0, by rw [← h]; exact (sem_other _ _ _ xs b (fun f e => h1 ⟨f, e⟩) h2).symm⟩
  simp only [step, Option.bind_eq_some_iff] at hs ⊢
  obtain ⟨w, h1, h2⟩ := hs
  cases w with
  | false => exact ⟨0, false, h1, h2⟩
  | true =>
    simp only [if_true, Option.bind_eq_some_iff] at h2
    obtain ⟨p, h3, h4⟩ := h2
    obtain ⟨n, hn⟩ := sem' h3
    exact ⟨n, true, h1, by simp only [if_true, Option.bind_eq_some_iff]; exact ⟨p, hn, h4⟩⟩

theorem steps_lim : ∀ {l : List Ao} {s s' : St}, steps (lim F X) l s = some s' → ∃ n, steps (prog F X n) l s = some s'
  | [], _, _, hs => ⟨0, hs⟩
  | o :: l, s, s', hs => by
    simp only [steps, Option.bind_eq_some_iff] at hs ⊢
    obtain ⟨s1, h1, h2⟩ := hs
    obtain ⟨n, hn⟩ := step_lim h1
    obtain ⟨m, hm⟩ := steps_lim h2
    exact ⟨max n m, s1, step_mono (prog_mono F X (Nat.le_max_left n m)) hn, steps_mono (prog_mono F X (Nat.le_max_right n m)) hm⟩

theorem exec_lim {k : Nat} : ∀ {c : Ac} {s : St} {p : Out × St}, exec (lim F X) k c s = some p → ∃ n, exec (prog F X n) k c s = some p := by
  intro c
  induction c with
  | skip => intro s p hs; exact ⟨0, hs⟩
  | ops l =>
    intro s p hs
    simp only [exec, Option.bind_eq_some_iff] at hs ⊢
    obtain ⟨s', h1, h2⟩ := hs
    obtain ⟨n, hn⟩ := steps_lim h1
    exact ⟨n, s', hn, h2⟩
  | keep ts bs => intro s p hs; exact ⟨0, hs⟩
  | gh l => intro s p hs; exact ⟨0, hs⟩
  | seq a b iha ihb =>
    intro s p hs
    simp only [exec, Option.bind_eq_some_iff] at hs ⊢
    obtain ⟨⟨o, s1⟩, h1, h2⟩ := hs
    obtain ⟨n, hn⟩ := iha h1
    cases o with
    | nrm =>
      obtain ⟨m, hm⟩ := ihb h2
      exact ⟨max n m, _, exec_mono (prog_mono F X (Nat.le_max_left n m)) (Nat.le_refl _) hn, exec_mono (prog_mono F X (Nat.le_max_right n m)) (Nat.le_refl _) hm⟩
    | exit i => exact ⟨n, _, hn, h2⟩
    | ret => exact ⟨n, _, hn, h2⟩
  | cond x a b iha ihb =>
    intro s p hs
    simp only [exec, Option.bind_eq_some_iff] at hs ⊢
    obtain ⟨t, h1, h2⟩ := hs
    cases t with
    | true => obtain ⟨n, hn⟩ := iha h2; exact ⟨n, true, h1, hn⟩
    | false => obtain ⟨n, hn⟩ := ihb h2; exact ⟨n, false, h1, hn⟩
  | block id c ih =>
    intro s p hs
    simp only [exec, Option.bind_eq_some_iff] at hs ⊢
    obtain ⟨q, h1, h2⟩ := hs
    obtain ⟨n, hn⟩ := ih h1
    exact ⟨n, q, hn, h2⟩
  | loop c ih =>
    intro s p hs
    simp only [exec] at hs ⊢
    have key : ∀ {j : Nat} {s : St} {p : Out × St}, iter (exec (lim F X) k c) j s = some p → ∃ n, iter (exec (prog F X n) k c) j s = some p := by
      intro j
      induction j with
      | zero => intro s p h; simp [iter] at h
      | succ j ihj =>
        intro s p h
        simp only [iter, Option.bind_eq_some_iff] at h ⊢
        obtain ⟨⟨o, s1⟩, h1, h2⟩ := h
        obtain ⟨n, hn⟩ := ih h1
        cases o with
        | nrm =>
          obtain ⟨m, hm⟩ := ihj h2
          refine ⟨max n m, _, exec_mono (prog_mono F X (Nat.le_max_left n m)) (Nat.le_refl _) hn, ?_⟩
          exact iter_mono (fun s p hs => exec_mono (prog_mono F X (Nat.le_max_right n m)) (Nat.le_refl _) hs) (Nat.le_refl _) hm
        | exit i => exact ⟨n, _, hn, h2⟩
        | ret => exact ⟨n, _, hn, h2⟩
    exact key hs
  | exit id => intro s p hs; exact ⟨0, hs⟩
  | ret => intro s p hs; exact ⟨0, hs⟩

/-- What a function's text says is what it answers. -/
theorem lim_run {f : Nat} {fn : Fn} (hf : F f = some fn) {k : Nat} {args : List T} {r : T × List T} (h : run (lim F X) k fn args = some r) : lim F X f args = some r := by
  rw [lim_iff]
  have h' : ∃ n, run (prog F X n) k fn args = some r := by
    have vv : ∀ {tv pa : List A} {bx : Bx} {r : T × List T}, runV (lim F X) k fn tv pa bx = some r → ∃ n, runV (prog F X n) k fn tv pa bx = some r := by
      intro tv pa bx r h
      simp only [runV, Option.bind_eq_some_iff] at h ⊢
      obtain ⟨q, h2, h3⟩ := h
      obtain ⟨n, hn⟩ := exec_lim h2
      exact ⟨n, q, hn, h3⟩
    have main : ∀ {r}, run1 (lim F X) k fn args = some r → ∃ n, run1 (prog F X n) k fn args = some r := by
      intro r h
      simp only [run1] at h ⊢
      split at h
      · rename_i hl
        simp only [hl, if_true]
        simp only [Option.bind_eq_some_iff] at h ⊢
        obtain ⟨p, h1, h2⟩ := h
        obtain ⟨n, hn⟩ := vv h2
        exact ⟨n, p, h1, hn⟩
      · cases h
    simp only [run] at h ⊢
    split at h
    · simp only [run0] at h ⊢
      split at h
      · rename_i hn
        simp only [if_pos hn]
        simp only [Option.bind_eq_some_iff] at h ⊢
        obtain ⟨n, h1, m, h2, h3⟩ := h
        obtain ⟨n1, hn1⟩ := vv (emptyRes_spec h1)
        obtain ⟨n2, hn2⟩ := vv (emptyRes_spec h2)
        refine ⟨max n1 n2, n, ?_, m, ?_, h3⟩
        · rw [runV_mono (prog_mono F X (Nat.le_max_left n1 n2)) (Nat.le_refl _) hn1]; rfl
        · rw [runV_mono (prog_mono F X (Nat.le_max_right n1 n2)) (Nat.le_refl _) hn2]; rfl
      · cases h
    · exact main h
  obtain ⟨n, hn⟩ := h'
  refine ⟨max n k + 1, ?_⟩
  simp only [prog, hf]
  exact run_mono (prog_mono F X (Nat.le_max_left n k)) (Nat.le_max_right n k) hn

theorem lim_ext {f : Nat} (hf : F f = none) {args : List T} {r : T × List T} (h : X f args = some r) : lim F X f args = some r :=
  lim_iff.2 ⟨1, by simp only [prog, hf]; exact h⟩

theorem lim_meets {mg : Mm} {P : Program} (hF : ∀ f fn, F f = some fn → FnOk mg P f fn) (hX : ∀ f, F f = none → Meets mg P f (X f)) (f : Nat) : Meets mg P f (lim F X f) := by
  have hp : ∀ n f, Meets mg P f (prog F X n f) := by
    intro n
    induction n with
    | zero => intro f m w args vs bs _ _ _ _ _ r args' hs; simp [prog] at hs
    | succ n ih =>
      intro f
      cases hf : F f with
      | none =>
        have : prog F X (n + 1) f = X f := by funext args; simp only [prog, hf]
        rw [this]; exact hX f hf
      | some fn =>
        have : prog F X (n + 1) f = fun args => run (prog F X n) n fn args := by funext args; simp only [prog, hf]
        rw [this]; exact fn_meets ih (hF f fn hf) n
  intro m w args vs bs h1 h2 h3 h4 h5 r args' hs
  obtain ⟨n, hn⟩ := lim_iff.1 hs
  exact hp n f m w args vs bs h1 h2 h3 h4 h5 r args' hn
end


/-! ### an array that was lent is as long as it was -/
theorem takesP_arr : ∀ {ts : List T} {as : List A} {i j : Nat} {bx bx' : Bx} {fz : Bool} {n : Nat} {es : List D}, takesP bx i ts = some (as, bx') → ts[j]? = some (.arr fz n es) → n ≠ 0 → ∃ id v, as[j]? = some (.ref id v 0 es.length n)
  | [], _, _, _, _, _, _, _, _, _, h, _ => by simp at h
  | t :: r, as, i, j, bx, bx', fz, n, es, hs, h, hn => by
    simp only [takesP, Option.bind_eq_some_iff] at hs
    obtain ⟨⟨a, b1⟩, h1, ⟨ar, b2⟩, h2, he⟩ := hs
    cases he
    cases j with
    | zero =>
      simp only [List.getElem?_cons_zero, Option.some.injEq] at h
      subst h
      cases n with
      | zero => exact absurd rfl hn
      | succ n =>
        simp only [take, take1, takeCell, Option.some.injEq, Prod.mk.injEq] at h1
        exact ⟨_, _, by rw [List.getElem?_cons_zero, ← h1.1]⟩
    | succ j =>
      simp only [List.getElem?_cons_succ] at h ⊢
      exact takesP_arr h2 h hn
theorem gives_arr {av : List Id} {al : Option (List Id)} {b : Bx} : ∀ {as : List A} {ps : List T} {j : Nat} {bx bx' : Bx} {id : Id} {v len n : Nat} {fz : Bool} {n' : Nat} {es : List D}, gives av al bx (as.map (lendP b)) = some (ps, bx') →
    as[j]? = some (.ref id v 0 len n) → ps[j]? = some (.arr fz n' es) → es.length = len
  | [], _, _, _, _, _, _, _, _, _, _, _, _, h, _ => by simp at h
  | a :: r, ps, j, bx, bx', id, v, len, n, fz, n', es, hs, h, hp => by
    simp only [List.map_cons, gives, Option.bind_eq_some_iff] at hs
    obtain ⟨⟨t, b1⟩, h1, ⟨tr, b2⟩, h2, he⟩ := hs
    cases he
    cases j with
    | zero =>
      simp only [List.getElem?_cons_zero, Option.some.injEq] at h hp
      subst h; subst hp
      simp only [lendP] at h1
      split at h1
      · simp only [give, give1] at h1
        split at h1
        · split at h1
          · split at h1
            · rename_i hc
              cases h1
              exact hc.2.2.1.symm
            · cases h1
          · cases h1
        · cases h1
      · simp only [give, give1] at h1; cases h1
    | succ j =>
      simp only [List.getElem?_cons_succ] at h hp
      exact gives_arr h2 h hp
theorem run_len {C : Cs} {k : Nat} {F : Fn} {args ps : List T} {r : T} (h : run C k F args = some (r, ps)) (hsp : F.sp = false) {j : Nat} {fz fz' : Bool} {n n' : Nat} {es es' : List D} (ha : args[j]? = some (.arr fz n es)) (hn : n ≠ 0) (hp : ps[j]? = some (.arr fz' n' es')) : es'.length = es.length := by
  have e : run C k F args = run1 C k F args := by unfold run; rw [hsp]
  rw [e] at h
  simp only [run1] at h
  split at h
  · simp only [Option.bind_eq_some_iff] at h
    obtain ⟨⟨as, bx0⟩, h1, h⟩ := h
    obtain ⟨id, v, h2⟩ := takesP_arr h1 ha hn
    simp only [runV, Option.bind_eq_some_iff] at h
    obtain ⟨⟨o, s'⟩, _, h⟩ := h
    have h' : ((ress s' F.rs).bind fun rs => (outs1 (if F.mvp then 0 else F.np) s'.bx rs).bind fun o => endV F o as) = some (r, ps) := by
      cases o with
      | exit i => cases h
      | nrm => exact h
      | ret => exact h
    simp only [Option.bind_eq_some_iff] at h'
    obtain ⟨rs, _, ⟨os, b1⟩, _, h3⟩ := h'
    simp only [endV] at h3
    split at h3
    · cases h3
    · simp only [Option.bind_eq_some_iff] at h3
      obtain ⟨⟨q, b2⟩, h4, h5⟩ := h3
      cases h5
      exact gives_arr h4 h2 hp
  · cases h
theorem lim_len {F : Nat → Option Fn} {X : Cs} {f : Nat} {fn : Fn} {args ps : List T} {r : T} (h : lim F X f args = some (r, ps)) (hf : F f = some fn) (hsp : fn.sp = false) (j : Nat) {fz fz' : Bool} {n n' : Nat} {es es' : List D} (ha : args[j]? = some (.arr fz n es)) (hn : n ≠ 0) (hp : ps[j]? = some (.arr fz' n' es')) : es'.length = es.length := by
  obtain ⟨k, hk⟩ := lim_iff.1 h
  cases k with
  | zero => cases hk
  | succ k =>
    simp only [prog, hf] at hk
    exact run_len hk hsp ha hn hp
end Go.Es

namespace Go.Es

variable {mg : Mm} {P : Program}

/-! ### from the program's text to the interpreter's -/
def cellA : Value → Option A
  | .bool b => some (.d (.bool b))
  | .int k n => some (.d (.int k n))
  | .string s => some (.d (.str s.data.toList))
  | .pointer none => some .nilp
  | .slice none 0 0 => some .nils
  | _ => none

theorem cellA_spec {v : Value} {a : A} (h : cellA v = some a) (g : Gh) (bx : Bx) : a.flat = true ∧ RA g bx a v := by
  unfold cellA at h
  split at h <;> cases h
  · exact ⟨rfl, .d (.bool _)⟩
  · exact ⟨rfl, .d (.int _ _)⟩
  · exact ⟨rfl, .d (.str _)⟩
  · exact ⟨rfl, .nilp⟩
  · exact ⟨rfl, .nils⟩

theorem cellD_spec {v : Value} {x : D} (h : cellD v = some x) (m : Mm) : x.flat = true ∧ RD m x v := by
  unfold cellD at h
  split at h <;> cases h
  · exact ⟨rfl, .bool _⟩
  · exact ⟨rfl, .int _ _⟩
  · exact ⟨rfl, .str _⟩
  · exact ⟨rfl, .sl0 _ _ (fun _ => rfl)⟩

theorem mapO_spec {α β : Type} {f : α → Option β} : ∀ {l : List α} {r : List β}, mapO f l = some r → ∃ hl : r.length = l.length, ∀ j (h : j < r.length), f (l[j]'(by omega)) = some r[j]
  | [], r, h => by simp only [mapO, Option.some.injEq] at h; subst h; exact ⟨rfl, fun j h => by simp at h⟩
  | a :: l, r, h => by
    simp only [mapO, Option.bind_eq_some_iff] at h
    obtain ⟨b, h1, s, h2, he⟩ := h
    cases he
    obtain ⟨hl, hj⟩ := mapO_spec h2
    refine ⟨by simp [hl], fun j h => ?_⟩
    cases j with
    | zero => exact h1
    | succ j => exact hj j (by simpa using h)

def zeroT (P : Program) (t : TypeId) : Option (List A) :=
  (P.info? t).bind fun i => i.zero.bind fun v => mapO cellA v.cells.toList

theorem zeroT_spec {t : TypeId} {z : List A} (h : zeroT P t = some z) : ZeroOk P t z := by
  simp only [zeroT, Option.bind_eq_some_iff] at h
  obtain ⟨i, h1, v, h2, h3⟩ := h
  obtain ⟨hl, hj⟩ := mapO_spec h3
  refine ⟨i, v, h1, h2, fun g bx => ⟨by simpa using hl, fun j hjl => ?_⟩⟩
  exact cellA_spec (hj j hjl) g bx

theorem dataD_spec {v : Value} {x : D} (h : dataD v = some x) (m : Mm) : RD m x v ∧ x.cells.length = v.cells.size := by
  cases v with
  | agg vs =>
    simp only [dataD, Option.bind_eq_some_iff] at h
    obtain ⟨l, h1, he⟩ := h
    cases he
    obtain ⟨hl, hj⟩ := mapO_spec h1
    refine ⟨.agg l vs (by simpa using hl.symm) (fun j hjl => (cellD_spec (hj j hjl) m).1) (fun j hjl => by simpa using (cellD_spec (hj j hjl) m).2), by simpa [D.cells, Value.cells] using hl⟩
  | _ =>
    have h' := h
    simp only [dataD] at h
    refine ⟨(cellD_spec h m).2, ?_⟩
    unfold cellD at h
    split at h <;> cases h <;> rfl

def elemT (P : Program) (e : TypeId) : Option (D × TypeInfo) :=
  (P.info? e).bind fun i => i.zero.bind fun v => (dataD v).bind fun z => if i.size = v.cells.size ∧ 0 < i.size then some (z, i) else none

theorem elemT_spec {e : TypeId} {z : D} {i : TypeInfo} (h : elemT P e = some (z, i)) : ElemOk P e z ∧ P.info? e = some i := by
  simp only [elemT, Option.bind_eq_some_iff] at h
  obtain ⟨i', h1, v, h2, z', h3, h4⟩ := h
  split at h4
  · rename_i hc
    cases h4
    exact ⟨⟨i, v, h1, h2, hc.1, by rw [(dataD_spec h3 (fun _ _ => none)).2, hc.1], hc.2, fun m => (dataD_spec h3 m).1⟩, h1⟩
  · cases h4

def aggT (P : Program) (t : TypeId) : Option (Option Nat) :=
  (P.underlying t).bind fun d => (P.info? t).bind fun i => some (if isAggD d then some i.size else none)

theorem aggT_spec {t : TypeId} {a : Option Nat} (h : aggT P t = some a) : AggOk P t a := by
  simp only [aggT, Option.bind_eq_some_iff] at h
  obtain ⟨d, h1, i, h2, he⟩ := h
  cases he
  exact ⟨d, i, h1, h2, rfl⟩

def constA (v : Value) : A :=
  match cellA v with
  | some a => a
  | none => match dataD v with
    | some x => .d x
    | none => match v with
      | .tuple ⟨[]⟩ => .tup []
      | _ => .top

theorem constA_spec (v : Value) (g : Gh) (bx : Bx) : RA g bx (constA v) v := by
  unfold constA
  split
  · rename_i a h; exact (cellA_spec h g bx).2
  · split
    · rename_i x h; exact .d (dataD_spec h g.m).1
    · split
      · exact .tup [] #[] rfl (fun j hj => by simp at hj)
      · exact .top _

/-- Operands; G: what package-level variables stand at. -/
def compO (G : Nat → Option A) : Operand → Option O
  | .tmp n => some (.t n)
  | .const v => some (.c (constA v))
  | .func f => some (.c (.fn f []))
  | .global n => (G n).bind fun a => some (.c a)

def GOk (mg : Mm) (G : Nat → Option A) : Prop := ∀ n a, G n = some a → ∀ g bx, mg.le g.m → RA g bx a (.pointer (some ⟨n, 0, none⟩))

variable {G : Nat → Option A} (hG : GOk mg G)

theorem compO_spec (hG : GOk mg G) {x : Operand} {o : O} (h : compO G x = some o) : FO mg x o := by
  cases x with
  | tmp n => simp only [compO, Option.some.injEq] at h; subst h; exact .tmp n
  | const v => simp only [compO, Option.some.injEq] at h; subst h; exact .const v _ fun g bx => constA_spec v g bx
  | func f => simp only [compO, Option.some.injEq] at h; subst h; exact .func f
  | global n =>
    simp only [compO, Option.bind_eq_some_iff] at h
    obtain ⟨a, h1, he⟩ := h
    cases he
    exact .global n a (hG n a h1)

theorem compOs_spec (hG : GOk mg G) : ∀ {xs : List Operand} {os : List O}, mapO (compO G) xs = some os → FOs mg xs os
  | [], os, h => by simp only [mapO, Option.some.injEq] at h; subst h; exact .nil
  | x :: xs, os, h => by
    simp only [mapO, Option.bind_eq_some_iff] at h
    obtain ⟨o, h1, l, h2, he⟩ := h
    cases he
    exact .cons (compO_spec hG h1) (compOs_spec hG h2)

/-! ### '==' of structs -/
def eqTs (P : Program) : Nat → TypeId → Option (List EK)
  | 0, _ => none
  | d + 1, t => match P.underlying t with
    | some (.int _) => some [.i]
    | some .bool => some [.b]
    | some .string => some [.s]
    | some (.struct fs) =>
      if P.stoodInHeld t = false then
        let kf : Field → List EK := fun f => (eqTs P d f.type).getD []
        if (fs.toList.all fun f => f.name != "_" && (eqTs P d f.type).isSome && (match P.info? f.type with | some i => i.size == (kf f).length | none => false)) &&
            (List.range fs.toList.length).all (fun k => ((fs.toList[k]?).map (·.offset)).getD 0 == ((fs.toList.take k).flatMap kf).length)
        then some (fs.toList.flatMap kf) else none
      else none
    | _ => none

theorem eqTs_spec : ∀ {d : Nat} {t : TypeId} {ks : List EK}, eqTs P d t = some ks → EqT P d t ks
  | 0, _, _, h => by simp [eqTs] at h
  | d + 1, t, ks, h => by
    simp only [eqTs] at h
    split at h
    · rename_i k hu; cases h; exact .int d t k hu
    · rename_i hu; cases h; exact .bool d t hu
    · rename_i hu; cases h; exact .str d t hu
    · rename_i fs hu
      split at h
      · rename_i hs
        split at h
        · rename_i hc
          cases h
          rw [Bool.and_eq_true, List.all_eq_true, List.all_eq_true] at hc
          obtain ⟨h1, h2⟩ := hc
          have h1' : ∀ f ∈ fs.toList, f.name ≠ "_" ∧ (∃ ks, eqTs P d f.type = some ks) ∧ ∃ i, P.info? f.type = some i ∧ i.size = ((eqTs P d f.type).getD []).length := by
            intro f hf
            have := h1 f hf
            simp only [Bool.and_eq_true, bne_iff_ne, ne_eq] at this
            obtain ⟨⟨a, b⟩, c⟩ := this
            refine ⟨a, Option.isSome_iff_exists.1 b, ?_⟩
            split at c
            · rename_i i hi; exact ⟨i, hi, by simpa using c⟩
            · cases c
          refine .struct d t fs hu hs _ (fun f hf => (h1' f hf).1) (fun f hf => ?_) (fun f hf => (h1' f hf).2.2) (fun k hk => ?_)
          · obtain ⟨ks, hks⟩ := (h1' f hf).2.1
            rw [hks]
            exact eqTs_spec hks
          · have := h2 k (by simpa using hk)
            simp only [List.getElem?_eq_getElem hk, Option.map_some, Option.getD_some, beq_iff_eq] at this
            exact this
        · cases h
      · cases h
    · cases h

theorem EqT.mono {d : Nat} {t : TypeId} {ks : List EK} (h : EqT P d t ks) : ∀ {d' : Nat}, d ≤ d' → EqT P d' t ks := by
  induction h with
  | int d t k h => intro d' hd; cases d' with | zero => omega | succ d' => exact .int d' t k h
  | bool d t h => intro d' hd; cases d' with | zero => omega | succ d' => exact .bool d' t h
  | str d t h => intro d' hd; cases d' with | zero => omega | succ d' => exact .str d' t h
  | struct d t fs h hs kf hna hf hi ho ih => intro d' hd; cases d' with | zero => omega | succ d' => exact .struct d' t fs h hs kf hna (fun f hfm => ih f hfm (by omega)) hi ho

/-! ### operations -/
def partsT (P : Program) (t : TypeId) (idx : List Nat) : Option (List (Nat × Nat)) :=
  match P.underlying t with
  | some (.struct fs) =>
    if fs.toList.all (fun f => (P.info? f.type).isSome) then mapO (fun k => (fs[k]?).map fun f => (f.offset, ((P.info? f.type).map (·.size)).getD 0)) idx else none
  | some (.array _ e) => (P.info? e).bind fun i => some (idx.map fun k => (k * i.size, i.size))
  | _ => none

theorem partsT_spec {t : TypeId} {idx : List Nat} {ps : List (Nat × Nat)} (h : partsT P t idx = some ps) : PartsOk P t idx ps := by
  unfold partsT at h
  split at h
  · rename_i fs hu
    split at h
    · rename_i hc
      obtain ⟨hl, hj⟩ := mapO_spec h
      refine .struct fs (fun f => ((P.info? f.type).map (·.size)).getD 0) idx ps hu (fun f hf => ?_) hl.symm (fun k hk hk' => hj k hk)
      rw [List.all_eq_true] at hc
      obtain ⟨i, hi⟩ := Option.isSome_iff_exists.1 (hc f (by simpa using hf))
      exact ⟨i, hi, by simp [hi]⟩
    · cases h
  · rename_i n e hu
    simp only [Option.bind_eq_some_iff] at h
    obtain ⟨i, hi, he⟩ := h
    cases he
    exact .array n e i idx _ hu hi (by simp) (fun k hk hk' => by simp)
  · cases h

def neOf : BinOp → Option Bool
  | .eql => some false
  | .neq => some true
  | _ => none

theorem neOf_spec {op : BinOp} {ne : Bool} (h : neOf op = some ne) : op = if ne then .neq else .eql := by
  cases op <;> simp only [neOf] at h <;> cases h <;> rfl

def isAgg1 (P : Program) (t : TypeId) : Bool :=
  match P.underlying t with
  | some .bool | some (.pointer _) | some (.struct _) => true
  | _ => false

def compBin (P : Program) (op : BinOp) (t : TypeId) : Option K :=
  match neOf op with
  | none => some (.bin op)
  | some ne => match P.underlying t with
    | some .bool => some (.eqb ne)
    | some (.pointer _) => some (.eqp ne)
    | some (.slice _) => some (.nilS ne)
    | some (.struct _) => if P.eqGuardType P.depth t = false then (eqTs P 12 t).bind fun ks => some (.eqa ne ks) else none
    | _ => some (.bin op)

def isStr (P : Program) (t : TypeId) : Bool :=
  match P.underlying t with
  | some .string => true
  | _ => false

theorem isStr_spec {t : TypeId} (h : isStr P t = true) : P.underlying t = some .string := by
  unfold isStr at h
  split at h
  · assumption
  · cases h

def elemOf (P : Program) (t : TypeId) : Option TypeId :=
  match P.underlying t with
  | some (.slice e) => some e
  | _ => none

theorem elemOf_spec {t e : TypeId} (h : elemOf P t = some e) : P.underlying t = some (.slice e) := by
  unfold elemOf at h
  split at h
  · rename_i h'; cases h; exact h'
  · cases h

def isU8 (P : Program) (t : TypeId) : Bool :=
  match P.underlying t with
  | some (.int .u8) => true
  | _ => false

theorem isU8_spec {t : TypeId} (h : isU8 P t = true) : P.underlying t = some (.int .u8) := by
  unfold isU8 at h
  split at h
  · assumption
  · cases h

def compConv (P : Program) (src dst : TypeId) : Option K :=
  match P.underlying dst with
  | some (.int k) => (P.underlying src).bind fun _ => some (.toInt k)
  | some .string => if isStr P src then some .sameS else (elemOf P src).bind fun e => if isU8 P e then some .bytesStr else none
  | some (.slice e) => if isStr P src && isU8 P e then some .strBytes else none
  | _ => none

def isInt (P : Program) (t : TypeId) : Option IntKind :=
  match P.underlying t with
  | some (.int k) => some k
  | _ => none
theorem isInt_spec {t : TypeId} {k : IntKind} (h : isInt P t = some k) : P.underlying t = some (.int k) := by
  unfold isInt at h
  split at h
  · rename_i h'; cases h; exact h'
  · cases h

def compBuiltin (P : Program) (b : Builtin) (ts : List TypeId) (n : Nat) : Option K :=
  match b, ts, n with
  | .len, [t], 1 => if isStr P t then some .lenS else (elemOf P t).bind fun _ => some .lenL
  | .append, [t, u], 2 => if (isInt P u).isSome = true then (elemOf P t).bind fun e => (elemT P e).bind fun p => if 0 < p.2.bytes ∧ p.2.bytes ≤ 2 ^ 30 then some (.appmk p.1 p.2.bytes) else none else
    (elemOf P t).bind fun e => (P.info? e).bind fun i => i.zero.bind fun z =>
      if z.cells.size = i.size ∧ 0 < i.size ∧ 0 < i.bytes ∧ i.bytes ≤ 2 ^ 30 ∧ ((isStr P u = true ∧ i.size = 1) ∨ (elemOf P u).isSome = true) then some (.append i.size i.bytes (isStr P u)) else none
  | .copy, [t, u], 2 => (elemOf P t).bind fun e => (P.info? e).bind fun i => if isStr P u = true → i.size = 1 then some (.copy i.size (isStr P u)) else none
  | .min, _, 2 => some .mn
  | .max, _, 2 => some .mx
  | _, _, _ => none

def compSlice (P : Program) (t : TypeId) (l h m : Bool) : Option K :=
  if isStr P t then (if m then none else some (.substr l h))
  else (elemOf P t).bind fun e => (P.info? e).bind fun i => some (.subsl i.size l h m)

def compK (P : Program) (G : Nat → Option A) (op : Op) : Option (K × List O) :=
  match op with
  | .move x | .assign x => (compO G x).bind fun o => some (.mv, [o])
  | .pick c a b => (compO G c).bind fun c => (compO G a).bind fun a => (compO G b).bind fun b => some (.pick, [c, a, b])
  | .alloc t => (zeroT P t).bind fun z => some (.alloc z, [])
  | .box t x => (P.info? t).bind fun i => (compO G x).bind fun o => if i.size = 0 then none else some (.box i.size, [o])
  | .build t parts => (zeroT P t).bind fun z => (partsT P t (parts.toList.map (·.1))).bind fun ps => (mapO (compO G) (parts.toList.map (·.2))).bind fun os => some (.build z ps, os)
  | .buildSlice t n parts => (elemOf P t).bind fun e => (elemT P e).bind fun p => (mapO (compO G) (parts.toList.map (·.2))).bind fun os =>
      if n * p.2.size ≤ 2 ^ 24 then some (.bslice p.1 n (parts.toList.map (·.1)), os) else none
  | .load t x => (aggT P t).bind fun a => (compO G x).bind fun o => some (.load a, [o])
  | .store t x v => (P.info? t).bind fun i => (compO G x).bind fun o => (compO G v).bind fun o' => if 0 < i.size then some (.store i.size, [o, o']) else none
  | .nilCheck x => (compO G x).bind fun o => some (.nilchk, [o])
  | .binOp op t x y _ => (compBin P op t).bind fun k => (compO G x).bind fun o => (compO G y).bind fun o' => some (k, [o, o'])
  | .unOp op _ x => (compO G x).bind fun o => some (.un op, [o])
  | .convert src dst x => (compConv P src dst).bind fun k => (compO G x).bind fun o => some (k, [o])
  | .makeSlice t l c => (elemOf P t).bind fun e => (elemT P e).bind fun p => (compO G l).bind fun o => (compO G c).bind fun o' => some (.mkslice p.1 p.2.bytes, [o, o'])
  | .slice t x l h m => (compSlice P t l.isSome h.isSome m.isSome).bind fun k => (mapO (compO G) ([x] ++ l.toList ++ h.toList ++ m.toList)).bind fun os => some (k, os)
  | .fieldAddr t x f => match P.underlying t with
    | some (.struct fs) => (fs[f]?).bind fun fl => (P.info? fl.type).bind fun i => (compO G x).bind fun o => if i.size = 0 then none else some (.faddr fl.offset, [o])
    | _ => none
  | .field t x f => match P.underlying t with
    | some (.struct fs) => (fs[f]?).bind fun fl => (aggT P fl.type).bind fun a => (compO G x).bind fun o => some (.field fl.offset a, [o])
    | _ => none
  | .indexAddr t x y => match P.underlying t with
    | some (.array n e) => (P.info? e).bind fun i => (compO G x).bind fun o => (compO G y).bind fun o' => some (.iaddrA n i.size, [o, o'])
    | some (.slice e) => (P.info? e).bind fun i => (compO G x).bind fun o => (compO G y).bind fun o' => some (.iaddrS i.size, [o, o'])
    | _ => none
  | .index t x y => if isStr P t then (compO G x).bind fun o => (compO G y).bind fun o' => some (.indexS, [o, o'])
    else match P.underlying t with
    | some (.array n e) => (P.info? e).bind fun i => (aggT P e).bind fun a => (compO G x).bind fun o => (compO G y).bind fun o' => some (.indexA n i.size a, [o, o'])
    | _ => none
  | .extract x i => (compO G x).bind fun o => some (.extract i, [o])
  | .makeFunc (.func f) ⟨[]⟩ caps => (mapO (compO G) caps.toList).bind fun os => some (.mkfn f, os)
  | .call c => match c.callee with
    | .builtin b => (compBuiltin P b c.argTypes.toList c.args.size).bind fun k => (mapO (compO G) c.args.toList).bind fun os => some (k, os)
    | .value (.func f) => (mapO (compO G) c.args.toList).bind fun os => some (.callf f, os)
    | .value x => (compO G x).bind fun o => (mapO (compO G) c.args.toList).bind fun os => some (.callv, o :: os)
    | _ => none
  | _ => none

theorem parts_zip (parts : Array (Nat × Operand)) : parts = ((parts.toList.map (·.1)).zip (parts.toList.map (·.2))).toArray := by
  obtain ⟨l⟩ := parts
  congr 1
  simp only
  induction l with
  | nil => rfl
  | cons p l ih => simp only [List.map_cons, List.zip_cons_cons, ← ih]

theorem compBin_spec {op : BinOp} {t : TypeId} {k : K} (h : compBin P op t = some k) {x y : Operand} {o o' : O} (hx : FO mg x o) (hy : FO mg y o') (ty yt : TypeId) : FitsK mg P (.binOp op t x y yt) ty k [o, o'] := by
  unfold compBin at h
  split at h
  · cases h; exact .bin ty op t x y o o' yt hx hy
  · rename_i ne hne
    have := neOf_spec hne
    subst this
    split at h
    · rename_i hu; cases h; exact .eqb ty t x y o o' yt ne hu hx hy
    · rename_i e hu; cases h; exact .eqp ty t x y o o' yt ne e hu hx hy
    · rename_i e hu; cases h; exact .nilS ty _ t e x y o o' yt ne rfl hu hx hy
    · rename_i fs hu
      split at h
      · rename_i hg
        simp only [Option.bind_eq_some_iff] at h
        obtain ⟨ks, h1, he⟩ := h
        cases he
        exact .eqa ty t x y o o' yt ne ks ((eqTs_spec h1).mono (by omega)) ⟨fs, hu⟩ hg hx hy
      · cases h
    · cases h; exact .bin ty _ t x y o o' yt hx hy

theorem compConv_spec {src dst : TypeId} {k : K} (h : compConv P src dst = some k) {x : Operand} {o : O} (hx : FO mg x o) (ty : TypeId) : FitsK mg P (.convert src dst x) ty k [o] := by
  unfold compConv at h
  split at h
  · rename_i k' hd
    simp only [Option.bind_eq_some_iff] at h
    obtain ⟨d0, h1, he⟩ := h
    cases he
    exact .toInt ty src dst x o k' d0 h1 hd hx
  · rename_i hd
    split at h
    · rename_i hs; cases h; exact .sameS ty src dst x o (isStr_spec hs) hd hx
    · simp only [Option.bind_eq_some_iff] at h
      obtain ⟨e, h1, h2⟩ := h
      split at h2
      · rename_i hu; cases h2; exact .bytesStr ty src dst e x o (elemOf_spec h1) hd (isU8_spec hu) hx
      · cases h2
  · rename_i e hd
    split at h
    · rename_i hc
      rw [Bool.and_eq_true] at hc
      cases h
      exact .strBytes ty src dst e x o (isStr_spec hc.1) hd (isU8_spec hc.2) hx
    · cases h
  · cases h

theorem FOs.two {x : Array Operand} {os : List O} (h : FOs mg x.toList os) (hs : x.size = 2) : ∃ a b o o', x = #[a, b] ∧ os = [o, o'] ∧ FO mg a o ∧ FO mg b o' := by
  obtain ⟨l⟩ := x
  simp only at h
  match l, os, h, hs with
  | [a, b], [o, o'], .cons h1 (.cons h2 .nil), _ => exact ⟨a, b, o, o', rfl, rfl, h1, h2⟩

theorem FOs.one {x : Array Operand} {os : List O} (h : FOs mg x.toList os) (hs : x.size = 1) : ∃ a o, x = #[a] ∧ os = [o] ∧ FO mg a o := by
  obtain ⟨l⟩ := x
  simp only at h
  match l, os, h, hs with
  | [a], [o], .cons h1 .nil, _ => exact ⟨a, o, rfl, rfl, h1⟩

theorem arr_eq {α : Type} {x : Array α} {l : List α} (h : x.toList = l) : x = l.toArray := by
  subst h; simp

theorem compBuiltin_spec {b : Builtin} {c : Call} {k : K} {os : List O} (hc : c.callee = .builtin b) (h : compBuiltin P b c.argTypes.toList c.args.size = some k) (hx : FOs mg c.args.toList os) (ty : TypeId) :
    FitsK mg P (.call c) ty k os := by
  obtain ⟨callee, args, ats⟩ := c
  simp only at hc h hx
  subst hc
  unfold compBuiltin at h
  split at h
  · rename_i t hts hsz
    have := arr_eq hts
    obtain ⟨a, o, rfl, rfl, ha⟩ := hx.one hsz
    subst this
    split at h
    · rename_i hs; cases h; exact .lenS ty a o t (isStr_spec hs) ha
    · simp only [Option.bind_eq_some_iff] at h
      obtain ⟨e, h1, he⟩ := h
      cases he
      exact .lenL ty a o t e (elemOf_spec h1) ha
  · rename_i t u hts hsz
    have := arr_eq hts
    obtain ⟨a, b, o, o', rfl, rfl, ha, hb⟩ := hx.two hsz
    subst this
    split at h
    · rename_i hint
      obtain ⟨kt, hkt⟩ := Option.isSome_iff_exists.1 hint
      simp only [Option.bind_eq_some_iff] at h
      obtain ⟨e, h1, ⟨z, i⟩, h2, h3⟩ := h
      split at h3
      · rename_i hc
        cases h3
        obtain ⟨hz, hi⟩ := elemT_spec h2
        exact .appmk ty a b o o' t u e z i.bytes kt (elemOf_spec h1) (isInt_spec hkt) hz (fun j hj => by rw [hi] at hj; cases hj; rfl) hc.1 hc.2 ha hb
      · cases h3
    simp only [Option.bind_eq_some_iff] at h
    obtain ⟨e, h1, i, h2, z, h3, h4⟩ := h
    split at h4
    · rename_i hc
      cases h4
      obtain ⟨c1, c2, c3, c4, c5⟩ := hc
      refine .append ty a b o o' t u e i.size i.bytes _ ⟨elemOf_spec h1, ?_, i, z, h2, h3, rfl, rfl, c1, c2, c3, c4⟩ (fun hs => ?_) ha hb
      · rcases c5 with ⟨hs, _⟩ | hs
        · exact .inl (isStr_spec hs)
        · obtain ⟨e', he'⟩ := Option.isSome_iff_exists.1 hs
          exact .inr ⟨e', elemOf_spec he'⟩
      · rcases c5 with ⟨_, h⟩ | h
        · exact h
        · obtain ⟨e', he'⟩ := Option.isSome_iff_exists.1 h
          have := elemOf_spec he'
          rw [isStr_spec hs] at this; cases this
    · cases h4
  · rename_i t u hts hsz
    have := arr_eq hts
    obtain ⟨a, b, o, o', rfl, rfl, ha, hb⟩ := hx.two hsz
    subst this
    simp only [Option.bind_eq_some_iff] at h
    obtain ⟨e, h1, i, h2, h3⟩ := h
    split at h3
    · rename_i hc
      cases h3
      exact .copy ty a b o o' t u e i.size _ i (elemOf_spec h1) h2 rfl hc ha hb
    · cases h3
  · rename_i hsz
    cases h
    obtain ⟨a, b, o, o', rfl, rfl, ha, hb⟩ := hx.two hsz
    exact .mn ty a b o o' ats ha hb
  · rename_i hsz
    cases h
    obtain ⟨a, b, o, o', rfl, rfl, ha, hb⟩ := hx.two hsz
    exact .mx ty a b o o' ats ha hb
  · cases h

theorem compK_spec (hG : GOk mg G) {op : Op} {k : K} {os : List O} (h : compK P G op = some (k, os)) (ty : TypeId) : FitsC mg P op ty k os := by
  unfold compK at h
  split at h <;> try (simp only [Option.bind_eq_some_iff] at h)
  · obtain ⟨o, h1, he⟩ := h; cases he
    exact .op _ _ _ _ (.move ty _ o (compO_spec hG h1))
  · obtain ⟨o, h1, he⟩ := h; cases he
    exact .op _ _ _ _ (.assign ty _ o (compO_spec hG h1))
  · obtain ⟨c, h1, a, h2, b, h3, he⟩ := h; cases he
    exact .op _ _ _ _ (.pick ty _ _ _ c a b (compO_spec hG h1) (compO_spec hG h2) (compO_spec hG h3))
  · obtain ⟨z, h1, he⟩ := h; cases he
    exact .op _ _ _ _ (.alloc ty _ z (zeroT_spec h1))
  · obtain ⟨i, h1, o, h2, he⟩ := h
    split at he
    · cases he
    · rename_i hn; cases he
      exact .op _ _ _ _ (.box ty _ _ o i.size (compO_spec hG h2) hn)
  · obtain ⟨z, h1, ps, h2, os', h3, he⟩ := h; cases he
    exact .op _ _ _ _ (.build ty _ z _ _ _ ps _ (parts_zip _) (zeroT_spec h1) (partsT_spec h2) (compOs_spec hG h3))
  · obtain ⟨e, h1, ⟨z, i⟩, h2, os', h3, he⟩ := h
    split at he
    · rename_i hle; cases he
      obtain ⟨hz, hi⟩ := elemT_spec h2
      exact .op _ _ _ _ (.bslice ty _ e z _ _ _ _ _ (parts_zip _) (elemOf_spec h1) hz (fun j hj => by rw [hi] at hj; cases hj; exact hle) (compOs_spec hG h3))
    · cases he
  · obtain ⟨a, h1, o, h2, he⟩ := h; cases he
    exact .op _ _ _ _ (.load ty _ _ o a (aggT_spec h1) (compO_spec hG h2))
  · obtain ⟨i, h1, o, h2, o', h3, he⟩ := h
    split at he
    · rename_i hp; cases he
      exact .op _ _ _ _ (.store ty _ _ _ o o' i.size i h1 rfl hp (compO_spec hG h2) (compO_spec hG h3))
    · cases he
  · obtain ⟨o, h1, he⟩ := h; cases he
    exact .op _ _ _ _ (.nilchk ty _ o (compO_spec hG h1))
  · obtain ⟨k', h0, o, h1, o', h2, he⟩ := h; cases he
    exact .op _ _ _ _ (compBin_spec h0 (compO_spec hG h1) (compO_spec hG h2) ty _)
  · obtain ⟨o, h1, he⟩ := h; cases he
    exact .op _ _ _ _ (.un ty _ _ _ o (compO_spec hG h1))
  · obtain ⟨k', h0, o, h1, he⟩ := h; cases he
    exact .op _ _ _ _ (compConv_spec h0 (compO_spec hG h1) ty)
  · obtain ⟨e, h1, ⟨z, i⟩, h2, o, h3, o', h4, he⟩ := h; cases he
    obtain ⟨hz, hi⟩ := elemT_spec h2
    exact .op _ _ _ _ (.mkslice ty _ e z i.bytes _ _ o o' (elemOf_spec h1) hz (fun j hj => by rw [hi] at hj; cases hj; rfl) (compO_spec hG h3) (compO_spec hG h4))
  · obtain ⟨k', h0, os', h1, he⟩ := h; cases he
    unfold compSlice at h0
    split at h0
    · rename_i hs
      split at h0
      · cases h0
      · rename_i hm
        cases h0
        rename_i m
        cases m with
        | some _ => simp at hm
        | none => exact .op _ _ _ _ (.substr ty _ _ _ _ _ _ _ (isStr_spec hs) rfl rfl (by simpa using compOs_spec hG h1))
    · simp only [Option.bind_eq_some_iff] at h0
      obtain ⟨e, h2, i, h3, he⟩ := h0
      cases he
      exact .op _ _ _ _ (.subsl ty _ e _ _ _ _ _ i.size _ _ _ i (elemOf_spec h2) h3 rfl rfl rfl rfl (compOs_spec hG h1))
  · split at h
    · rename_i fs hu
      simp only [Option.bind_eq_some_iff] at h
      obtain ⟨fl, h1, i, h2, o, h3, he⟩ := h
      split at he
      · cases he
      · rename_i hn; cases he
        exact .op _ _ _ _ (.faddr (ty := ty) (off := fl.offset) (fs := fs) (fl := fl) (i := i) (hu := hu) (hf := h1) (hi := h2) (hs := hn) (ho := rfl) (h := compO_spec hG h3))
    · cases h
  · split at h
    · rename_i fs hu
      simp only [Option.bind_eq_some_iff] at h
      obtain ⟨fl, h1, a, h2, o, h3, he⟩ := h
      cases he
      exact .op _ _ _ _ (.field (ty := ty) (off := fl.offset) (fs := fs) (fl := fl) (hu := hu) (hf := h1) (ha := aggT_spec h2) (ho := rfl) (h := compO_spec hG h3))
    · cases h
  · split at h
    · rename_i n e hu
      simp only [Option.bind_eq_some_iff] at h
      obtain ⟨i, h1, o, h2, o', h3, he⟩ := h
      cases he
      exact .op _ _ _ _ (.iaddrA (ty := ty) (e := e) (i := i) (hu := hu) (hi := h1) (hs := rfl) (h := compO_spec hG h2) (h' := compO_spec hG h3))
    · rename_i e hu
      simp only [Option.bind_eq_some_iff] at h
      obtain ⟨i, h1, o, h2, o', h3, he⟩ := h
      cases he
      exact .op _ _ _ _ (.iaddrS (ty := ty) (e := e) (i := i) (hu := hu) (hi := h1) (hs := rfl) (h := compO_spec hG h2) (h' := compO_spec hG h3))
    · cases h
  · split at h
    · rename_i hs
      simp only [Option.bind_eq_some_iff] at h
      obtain ⟨o, h2, o', h3, he⟩ := h
      cases he
      exact .op _ _ _ _ (.indexS ty _ _ _ o o' (isStr_spec hs) (compO_spec hG h2) (compO_spec hG h3))
    · split at h
      · rename_i n e hu
        simp only [Option.bind_eq_some_iff] at h
        obtain ⟨i, h1, a, h2, o, h3, o', h4, he⟩ := h
        cases he
        exact .op _ _ _ _ (.indexA (ty := ty) (e := e) (i := i) (hu := hu) (hi := h1) (hs := rfl) (ha := aggT_spec h2) (h := compO_spec hG h3) (h' := compO_spec hG h4))
      · cases h
  · obtain ⟨o, h1, he⟩ := h; cases he
    exact .op _ _ _ _ (.extract ty _ o _ (compO_spec hG h1))
  · obtain ⟨os', h1, he⟩ := h; cases he
    exact .op _ _ _ _ (.mkfn ty _ _ _ (compOs_spec hG h1))
  · rename_i c
    split at h
    · rename_i b hb
      simp only [Option.bind_eq_some_iff] at h
      obtain ⟨k', h1, os', h2, he⟩ := h; cases he
      exact .op _ _ _ _ (compBuiltin_spec hb h1 (compOs_spec hG h2) ty)
    · rename_i f hf
      simp only [Option.bind_eq_some_iff] at h
      obtain ⟨os', h2, he⟩ := h; cases he
      obtain ⟨callee, args, ats⟩ := c
      simp only at hf; subst hf
      exact .callf ty f args ats _ (compOs_spec hG h2)
    · rename_i x hne hx
      simp only [Option.bind_eq_some_iff] at h
      obtain ⟨o, h1, os', h2, he⟩ := h; cases he
      obtain ⟨callee, args, ats⟩ := c
      simp only at hx; subst hx
      exact .callv ty x o args ats _ (compO_spec hG h1) (compOs_spec hG h2)
    · cases h
  · cases h

/-! ### code -/
def compG (ops : Array Oper) : Option (Nat × Bool) → Option (Option (Nat × Bool))
  | none => some none
  | some (j, b) => ((ops[j]?).bind (·.dst)).bind fun t => some (some (t, b))

def ltD (N : Nat) : Option Nat → Bool
  | some d => decide (d < N)
  | none => true

/-- What the skeleton says is lent, is lent. -/
def lendOs : List O → List O → List O
  | .t n :: r, .l _ :: s => .l n :: lendOs r s
  | o :: r, _ :: s => o :: lendOs r s
  | r, [] => r
  | [], _ => []
def lendK : K → List O → List O → List O
  | .callf _, os, gs => lendOs os gs
  | .callv, o :: os, _ :: gs => o :: lendOs os gs
  | _, os, _ => os

theorem lendOs_spec {xs : List Operand} {os : List O} (h : FOs mg xs os) : ∀ gs, FOs mg xs (lendOs os gs) := by
  induction h with
  | nil => intro gs; cases gs <;> exact .nil
  | cons h t ih =>
    intro gs
    cases gs with
    | nil => cases h <;> exact .cons (by constructor <;> assumption) t
    | cons g gs =>
      cases h with
      | tmp n => cases g <;> first | exact .cons (.lent n) (ih gs) | exact .cons (.tmp n) (ih gs)
      | lent n => exact .cons (.lent n) (ih gs)
      | const v a h => exact .cons (.const v a h) (ih gs)
      | func f => exact .cons (.func f) (ih gs)
      | global n a h => exact .cons (.global n a h) (ih gs)
theorem lendK_spec {op : Op} {ty : TypeId} {k : K} {os : List O} (gs : List O) (h : FitsC mg P op ty k os) : FitsC mg P op ty k (lendK k os gs) := by
  cases h with
  | op o ty k xs h =>
    have e : lendK k os gs = os := by cases h <;> rfl
    rw [e]; exact .op _ _ _ _ h
  | callf ty f args ats os h => exact .callf ty f args ats _ (lendOs_spec h gs)
  | callv ty x o args ats os hx h =>
    cases gs with
    | nil => exact .callv ty x o args ats os hx h
    | cons g gs => exact .callv ty x o args ats _ hx (lendOs_spec h gs)

def compAo (P : Program) (G : Nat → Option A) (N : Nat) (ops : Array Oper) (o : Oper) (g : Ao) : Option Ao :=
  (compK P G o.op).bind fun p => (compG ops o.guard).bind fun gg =>
    if ltD N o.dst = true then some ⟨o.dst, p.1, lendK p.1 p.2 g.xs, gg, g.av, g.al⟩ else none

theorem compAo_spec (hG : GOk mg G) {N : Nat} {ops : Array Oper} {o : Oper} {g a : Ao} (h : compAo P G N ops o g = some a) : FitsO mg P N ops o a := by
  simp only [compAo, Option.bind_eq_some_iff] at h
  obtain ⟨⟨k, os⟩, h1, gg, h2, h3⟩ := h
  split at h3
  · rename_i hd
    cases h3
    refine ⟨rfl, fun d hd' => by rw [hd'] at hd; simpa [ltD] using hd, ?_, lendK_spec g.xs (compK_spec hG h1 o.type)⟩
    show FitsG ops o.guard gg
    generalize o.guard = og at h2
    cases og with
    | none => simp only [compG, Option.some.injEq] at h2; subst h2; exact .none
    | some p =>
      obtain ⟨j, b⟩ := p
      simp only [compG, Option.bind_eq_some_iff] at h2
      obtain ⟨t, ht, he⟩ := h2
      cases he
      exact .some j t b (by simpa only [Option.bind_eq_some_iff] using ht)
  · cases h3

def compL (P : Program) (G : Nat → Option A) (N : Nat) (ops : Array Oper) : List Oper → List Ao → Option (List Ao)
  | [], [] => some []
  | o :: r, g :: s => (compAo P G N ops o g).bind fun a => (compL P G N ops r s).bind fun l => some (a :: l)
  | _, _ => none

theorem compL_spec (hG : GOk mg G) {N : Nat} {ops : Array Oper} : ∀ {r : List Oper} {s l : List Ao}, compL P G N ops r s = some l →
    r.length = l.length ∧ ∀ (i : Nat) (o : Oper) (a : Ao), r[i]? = some o → l[i]? = some a → FitsO mg P N ops o a
  | [], [], l, h => by
    simp only [compL, Option.some.injEq] at h; subst h
    exact ⟨rfl, fun i o a h => by simp at h⟩
  | [], _ :: _, l, h => by simp [compL] at h
  | _ :: _, [], l, h => by simp [compL] at h
  | o :: r, g :: s, l, h => by
    simp only [compL, Option.bind_eq_some_iff] at h
    obtain ⟨a, h1, l', h2, he⟩ := h
    cases he
    obtain ⟨hl, hf⟩ := compL_spec hG h2
    refine ⟨by simp [hl], fun i o' a' ho ha => ?_⟩
    cases i with
    | zero =>
      simp only [List.getElem?_cons_zero, Option.some.injEq] at ho ha
      subst ho ha
      exact compAo_spec hG h1
    | succ i => exact hf i o' a' (by simpa using ho) (by simpa using ha)

def insB (T d0 : Nat) (kk vk : IntKind) (p : Int × Int) : Option Oper → Bool
  | some ⟨none, .insert T' (.tmp d) (.const (.int k a)) (.const (.int v b)), _, _, _, none⟩ => T' == T && d == d0 && k == kk && v == vk && a == p.1 && b == p.2
  | _ => false
def insAll (ops : Array Oper) (T d0 : Nat) (kk vk : IntKind) : Nat → List (Int × Int) → Bool
  | _, [] => true
  | j, p :: r => insB T d0 kk vk p ops[j]? && insAll ops T d0 kk vk (j + 1) r
def moveB (d x : Nat) : Option Oper → Bool
  | some ⟨some d', .move (.tmp x'), _, _, _, none⟩ => d' == d && x' == x
  | _ => false
def lookB (T d x y : Nat) : Option Oper → Bool
  | some ⟨some d', .lookup T' (.tmp x') (.tmp y') false, _, _, _, none⟩ => d' == d && x' == x && y' == y && T' == T
  | _ => false
def mkB (T d : Nat) : Option Oper → Bool
  | some ⟨some d', .makeMap T' none, _, _, _, none⟩ => d' == d && T' == T
  | _ => false
def intB (k : IntKind) : Option TypeDesc → Bool
  | some (.int k') => k' == k
  | _ => false
def zeroB (k : IntKind) : Option Value → Bool
  | some (.int k' 0) => k' == k
  | _ => false

theorem insB_spec {T d0 : Nat} {kk vk : IntKind} {p : Int × Int} {o : Option Oper} (h : insB T d0 kk vk p o = true) : ∃ ty pos after, o = some ⟨none, .insert T (.tmp d0) (.const (.int kk p.1)) (.const (.int vk p.2)), ty, pos, after, none⟩ := by
  unfold insB at h
  split at h
  · simp only [Bool.and_eq_true, beq_iff_eq] at h
    obtain ⟨⟨⟨⟨⟨rfl, rfl⟩, rfl⟩, rfl⟩, rfl⟩, rfl⟩ := h
    exact ⟨_, _, _, rfl⟩
  · cases h
theorem moveB_spec {d x : Nat} {o : Option Oper} (h : moveB d x o = true) : ∃ ty pos after, o = some ⟨some d, .move (.tmp x), ty, pos, after, none⟩ := by
  unfold moveB at h
  split at h
  · simp only [Bool.and_eq_true, beq_iff_eq] at h
    obtain ⟨rfl, rfl⟩ := h
    exact ⟨_, _, _, rfl⟩
  · cases h
theorem lookB_spec {T d x y : Nat} {o : Option Oper} (h : lookB T d x y o = true) : ∃ ty pos after, o = some ⟨some d, .lookup T (.tmp x) (.tmp y) false, ty, pos, after, none⟩ := by
  unfold lookB at h
  split at h
  · simp only [Bool.and_eq_true, beq_iff_eq] at h
    obtain ⟨⟨⟨rfl, rfl⟩, rfl⟩, rfl⟩ := h
    exact ⟨_, _, _, rfl⟩
  · cases h
theorem mkB_spec {T d : Nat} {o : Option Oper} (h : mkB T d o = true) : ∃ ty pos after, o = some ⟨some d, .makeMap T none, ty, pos, after, none⟩ := by
  unfold mkB at h
  split at h
  · simp only [Bool.and_eq_true, beq_iff_eq] at h
    obtain ⟨rfl, rfl⟩ := h
    exact ⟨_, _, _, rfl⟩
  · cases h
theorem intB_spec {k : IntKind} {o : Option TypeDesc} (h : intB k o = true) : o = some (.int k) := by
  unfold intB at h
  split at h
  · simp only [beq_iff_eq] at h
    rw [h]
  · cases h
theorem zeroB_spec {k : IntKind} {o : Option Value} (h : zeroB k o = true) : o = some (.int k 0) := by
  unfold zeroB at h
  split at h
  · simp only [beq_iff_eq] at h
    rw [h]
  · cases h
theorem insAll_spec {ops : Array Oper} {T d0 : Nat} {kk vk : IntKind} : ∀ {l : List (Int × Int)} {j : Nat}, insAll ops T d0 kk vk j l = true → ∀ i p, l[i]? = some p → insB T d0 kk vk p ops[j + i]? = true
  | [], j, _, i, p, hp => by simp at hp
  | q :: r, j, h, i, p, hp => by
    simp only [insAll, Bool.and_eq_true] at h
    cases i with
    | zero => simp only [List.getElem?_cons_zero, Option.some.injEq] at hp; subst hp; exact h.1
    | succ i =>
      have := insAll_spec h.2 i p (by simpa using hp)
      rw [show j + 1 + i = j + (i + 1) by omega] at this
      exact this

def litOf (P : Program) (ops : Array Oper) : List Ao → Option (LitD × List Ao)
  | ⟨some d0, _, _, _, _, _⟩ :: ⟨some d1, _, _, _, _, _⟩ :: ⟨some d2, _, [.t x], _, _, _⟩ :: ⟨some d3, .lkp tbl kk vk, _, _, _, _⟩ :: gr =>
    match (ops[0]? : Option Oper) with
    | some ⟨_, .makeMap T none, _, _, _, _⟩ =>
      match P.underlying T with
      | some (.map tk te) => (P.info? te).bind fun ie => some (⟨T, tk, te, kk, vk, ie, d0, d1, d2, d3, x, tbl, []⟩, gr)
      | _ => none
    | _ => none
  | _ => none

theorem litOf_spec {P : Program} {ops : Array Oper} {gs : List Ao} {L : LitD} {gr : List Ao} (h : litOf P ops gs = some (L, gr)) : P.underlying L.T = some (.map L.tk L.te) ∧ P.info? L.te = some L.ie := by
  unfold litOf at h
  split at h
  · split at h
    · split at h
      · rename_i hu
        simp only [Option.bind_eq_some_iff, Option.some.injEq, Prod.mk.injEq] at h
        obtain ⟨ie, hi, rfl, _⟩ := h
        exact ⟨hu, hi⟩
      · cases h
    · cases h
  · cases h

def litB (P : Program) (N : Nat) (ops : Array Oper) (L : LitD) : Bool :=
  intB L.kk (P.underlying L.tk) && zeroB L.vk L.ie.zero && mkB L.T L.d0 ops[0]? && insAll ops L.T L.d0 L.kk L.vk 1 L.tbl && moveB L.d1 L.d0 ops[1 + L.tbl.length]? && moveB L.d2 L.x ops[2 + L.tbl.length]? &&
    lookB L.T L.d3 L.d1 L.d2 ops[3 + L.tbl.length]? && decide (L.d0 < N ∧ L.d1 < N ∧ L.d2 < N ∧ L.d3 < N) && decide (L.d1 ≠ L.d2) && decide (L.tbl.Pairwise fun p q => p.1 ≠ q.1)

def compLit (P : Program) (G : Nat → Option A) (N : Nat) (ops : Array Oper) (gs : List Ao) : Option (List Ao) :=
  (litOf P ops gs).bind fun p => if litB P N ops p.1 = true then (compL P G N ops (ops.toList.drop (4 + p.1.tbl.length)) p.2).bind fun l =>
    if ops.size = 4 + p.1.tbl.length + l.length then some (⟨some p.1.d0, .mv, [.c .top], none, [], none⟩ :: ⟨some p.1.d1, .mv, [.c .top], none, [], none⟩ :: ⟨some p.1.d2, .mv, [.t p.1.x], none, [], none⟩ :: ⟨some p.1.d3, .lkp p.1.tbl p.1.kk p.1.vk, [.t p.1.d2], none, [], none⟩ :: l) else none else none

theorem compLit_spec (hG : GOk mg G) {N : Nat} {ops : Array Oper} {gs aos : List Ao} (h : compLit P G N ops gs = some aos) : ∃ L, LitOk mg P N ops aos L := by
  simp only [compLit, Option.bind_eq_some_iff] at h
  obtain ⟨⟨L, gr⟩, h1, h⟩ := h
  obtain ⟨hm, hie⟩ := litOf_spec h1
  simp only at h
  split at h
  · rename_i hb
    simp only [Option.bind_eq_some_iff] at h
    obtain ⟨l, h2, h⟩ := h
    split at h
    · rename_i hs
      simp only [litB, Bool.and_eq_true, decide_eq_true_eq] at hb
      obtain ⟨⟨⟨⟨⟨⟨⟨⟨⟨b1, b2⟩, b3⟩, b4⟩, b5⟩, b6⟩, b7⟩, b8⟩, b9⟩, b10⟩ := hb
      obtain ⟨hl, hf⟩ := compL_spec hG h2
      refine ⟨{ L with raos := l }, ⟨hm, intB_spec b1, ⟨hie, zeroB_spec b2⟩, mkB_spec b3, fun j p hp => insB_spec (insAll_spec b4 j p hp), moveB_spec b5, moveB_spec b6, lookB_spec b7, hs, fun i o ao hi ho => hf i o ao ?_ hi, ?_, b8, b9, b10⟩⟩
      · rw [List.getElem?_drop]; simpa using ho
      · exact (Option.some.inj h).symm
    · cases h
  · cases h

def isLit (ops : Array Oper) : Bool := match (ops[0]? : Option Oper) with
  | some ⟨_, .makeMap _ _, _, _, _, _⟩ => true
  | _ => false

def directs (o : Oper) : List Nat := (o.after.toList.filter (Region.binds .any)).map (·.on)

def uni (a l : List Nat) : List Nat := l.foldl (fun a x => if a.contains x then a else x :: a) a

def preRows : List Oper → List (List Nat) → List (List Nat)
  | [], acc => acc
  | o :: r, acc => preRows r (acc ++ [(directs o).foldl (fun a k => uni a (acc.getD k [])) (uni [] (directs o))])

def drawB (ops : List Oper) (aos : List Ao) (rows : List (List Nat)) : Bool :=
  (List.range ops.length).all fun i =>
    (match ops[i]? with
    | some o => (directs o).all (fun k => decide (k < i)) && (rows.getD i []).all (fun j => (directs o).any fun k => k == j || (rows.getD k []).contains j)
    | none => true) &&
    (List.range i).all fun j => (rows.getD i []).contains j || (match aos[j]?, aos[i]? with
      | some x, some y => apartAo x y
      | _, _ => true)

theorem drawB_spec {ops : Array Oper} {aos : List Ao} {rows : List (List Nat)} (h : drawB ops.toList aos rows = true) (hs : ops.size = aos.length) : DrawOk ops aos (fun i j => (rows.getD i []).contains j) := by
  have h' : ∀ i, i < ops.size → _ := fun i hi => by
    rw [drawB, List.all_eq_true] at h
    exact h i (by simpa using hi)
  have mem : ∀ {i : Nat} {o : Oper}, ops[i]? = some o → i < ops.size ∧ ops.toList[i]? = some o := fun {i o} ho => ⟨(Array.getElem?_eq_some_iff.1 ho).1, by simpa using ho⟩
  have dir : ∀ {o : Oper} {e : Edge}, e ∈ o.after → Region.binds .any e = true → e.on ∈ directs o := fun {o e} he hb => by
    simp only [directs, List.mem_map, List.mem_filter]
    exact ⟨e, ⟨by simpa using he, hb⟩, rfl⟩
  have dir' : ∀ {o : Oper} {k : Nat}, k ∈ directs o → ∃ e ∈ o.after, Region.binds .any e = true ∧ e.on = k := fun {o k} hk => by
    simp only [directs, List.mem_map, List.mem_filter] at hk
    obtain ⟨e, ⟨he, hb⟩, rfl⟩ := hk
    exact ⟨e, by simpa using he, hb, rfl⟩
  refine ⟨fun i o ho e he hb => ?_, fun i j x y hji hy hx => ?_, fun i o j ho hp => ?_⟩
  · obtain ⟨hi, ho'⟩ := mem ho
    have := h' i hi
    simp only [ho', Bool.and_eq_true, List.all_eq_true, decide_eq_true_eq] at this
    exact this.1.1 _ (dir he hb)
  · have hi : i < ops.size := by rw [hs]; exact (List.getElem?_eq_some_iff.1 hy).1
    have := h' i hi
    simp only [Bool.and_eq_true, List.all_eq_true] at this
    have := this.2 j (by simpa using hji)
    rw [Bool.or_eq_true] at this
    rcases this with h1 | h1
    · exact .inl h1
    · rw [hx, hy] at h1; exact .inr h1
  · obtain ⟨hi, ho'⟩ := mem ho
    have := h' i hi
    simp only [ho', Bool.and_eq_true, List.all_eq_true, decide_eq_true_eq, List.any_eq_true, Bool.or_eq_true, beq_iff_eq] at this
    obtain ⟨k, hk, hor⟩ := this.1.2 j (List.contains_iff_mem.1 hp)
    obtain ⟨e, he, hb, rfl⟩ := dir' hk
    exact ⟨e, he, hb, hor⟩

/-- The program's code, with the interpreter's marks put in. -/
def panB (P : Program) (N : Nat) (ops : Array Oper) (U : Nat) (v : D) : Option Ac :=
  match ops with
  | ⟨[⟨some d, .makeInterface U' (.const c), _, _, _, none⟩, ⟨_, .panic (.tmp d'), _, _, _, none⟩]⟩ =>
    match P.underlying U with
    | some (.int _) => if U' = U ∧ d' = d ∧ d < N then (dataD c).bind fun x => match x, v with
      | .int k n, .int k' n' => if k = k' ∧ n = n' then some (panA U v) else none
      | _, _ => none
      else none
    | _ => none
  | _ => none
theorem panB_spec {P : Program} {N : Nat} {ops : Array Oper} {U : Nat} {v : D} {a : Ac} (h : panB P N ops U v = some a) : a = panA U v ∧ PanOk P N ops U v := by
  unfold panB at h
  split at h
  · rename_i d U' c _ _ _ _ d' _ _ _
    split at h
    · rename_i k hk
      split at h
      · rename_i hc
        obtain ⟨rfl, rfl, hd⟩ := hc
        simp only [Option.bind_eq_some_iff] at h
        obtain ⟨x, hx, h⟩ := h
        split at h
        · split at h
          · rename_i he
            obtain ⟨rfl, rfl⟩ := he
            cases h
            exact ⟨rfl, ⟨_, _, _, _, _, _, _, _, _, rfl, hd, hx, _, hk⟩⟩
          · cases h
        · cases h
      · cases h
    · cases h
  · cases h

def compA (P : Program) (G : Nat → Option A) (N : Nat) (pb : List Id) : Ac → Code → Option Ac
  | .cond (.c .top) .skip .skip, _ => some deadA
  | .cond (.c .top) (.ops [⟨some U, .mv, [.c (.d v)], none, [], none⟩]) .skip, .region _ ops false => panB P N ops U v
  | .skip, .skip => some .skip
  | .ops gs, .region _ ops draw => if isLit ops && !draw then (compLit P G N ops gs).bind fun l => some (.ops l) else (compL P G N ops ops.toList gs).bind fun l =>
      if draw = true then if P.follows .mixedOrders && drawB ops.toList l (preRows ops.toList []) then some (.ops l) else none else some (.ops l)
  | .seq (.ops gs) (.seq (.gh l) (.ops hs)), .region _ ops false => (compL P G N ops ops.toList (gs ++ hs)).bind fun r => some (.seq (.ops (r.take gs.length)) (.seq (.gh l) (.ops (r.drop gs.length))))
  | .seq (.keep ts bs) g, c => if pb.all bs.contains then (compA P G N pb g c).bind fun a => some (.seq (.keep ts bs) a) else none
  | .seq (.gh l) g, c => (compA P G N pb g c).bind fun a => some (.seq (.gh l) a)
  | .seq g (.gh l), c => (compA P G N pb g c).bind fun a => some (.seq a (.gh l))
  | .seq g (.seq (.gh l) (.seq (.keep ts bs) .skip)), c => if pb.all bs.contains then (compA P G N pb g c).bind fun a => some (.seq a (.seq (.gh l) (.seq (.keep ts bs) .skip))) else none
  | .seq g h, .seq c d => (compA P G N pb g c).bind fun a => (compA P G N pb h d).bind fun b => some (.seq a b)
  | .cond _ g h, .cond x c d => (compO G x).bind fun o => (compA P G N pb g c).bind fun a => (compA P G N pb h d).bind fun b => some (.cond o a b)
  | .block _ g, .block id c => (compA P G N pb g c).bind fun a => some (.block id a)
  | .loop g, .loop c => (compA P G N pb g c).bind fun a => some (.loop a)
  | .exit _, .exit id => some (.exit id)
  | .ret, .ret => some .ret
  | _, _ => none

theorem compA_spec (hG : GOk mg G) {N : Nat} {pb : List Id} (g : Ac) (c : Code) : ∀ {a : Ac}, compA P G N pb g c = some a → FitsA mg P N pb c a := by
  fun_induction compA P G N pb g c with
  | case1 => intro a h; cases h; exact .dead _
  | case2 U v id ops => intro a h; obtain ⟨rfl, hp⟩ := panB_spec h; exact .pan id ops U v hp
  | case3 => intro a h; cases h; exact .skip
  | case4 gs id ops draw hd =>
    intro a h
    simp only [Bool.and_eq_true, Bool.not_eq_true'] at hd
    obtain ⟨_, rfl⟩ := hd
    simp only [Option.bind_eq_some_iff, Option.some.injEq] at h
    obtain ⟨l, h1, rfl⟩ := h
    obtain ⟨L, hL⟩ := compLit_spec hG h1
    exact .lit id ops l L hL
  | case5 gs id ops draw _ =>
    intro a h
    simp only [Option.bind_eq_some_iff] at h
    obtain ⟨l, h1, h2⟩ := h
    obtain ⟨hl, hf⟩ := compL_spec hG h1
    have hr : RegOk mg P N ops l := ⟨by simpa using hl, fun i o ao ho ha => hf i o ao (by simpa using ho) ha⟩
    cases draw with
    | false => simp only [Bool.false_eq_true, if_false, Option.some.injEq] at h2; subst h2; exact .region id ops l hr
    | true =>
      simp only [if_true] at h2
      split at h2
      · rename_i hc
        rw [Bool.and_eq_true] at hc
        cases h2
        exact .draw id ops l _ hc.1 hr (drawB_spec hc.2 hr.size)
      · cases h2
  | case6 gs l hs id ops =>
    intro a h
    simp only [Option.bind_eq_some_iff, Option.some.injEq] at h
    obtain ⟨r, h1, rfl⟩ := h
    obtain ⟨hl, hf⟩ := compL_spec hG h1
    refine .split id ops _ _ l ?_
    rw [List.take_append_drop]
    exact ⟨by simpa using hl, fun i o ao ho ha => hf i o ao (by simpa using ho) ha⟩
  | case7 ts bs g c hb ih =>
    intro a h
    simp only [Option.bind_eq_some_iff] at h
    obtain ⟨a', h1, he⟩ := h
    cases he
    exact .keep c a' ts bs hb (ih h1)
  | case8 => intro a h; cases h
  | case9 l g c ih =>
    intro a h
    simp only [Option.bind_eq_some_iff] at h
    obtain ⟨a', h1, he⟩ := h
    cases he
    exact .gh c a' l (ih h1)
  | case10 g l c _ _ ih =>
    intro a h
    simp only [Option.bind_eq_some_iff] at h
    obtain ⟨a', h1, he⟩ := h
    cases he
    exact .ghr c a' l (ih h1)
  | case11 g l ts bs c _ _ hb ih =>
    intro a h
    simp only [Option.bind_eq_some_iff] at h
    obtain ⟨a', h1, he⟩ := h
    cases he
    exact .keepr c a' l ts bs hb (ih h1)
  | case12 => intro a h; cases h
  | case13 g h c d _ _ _ _ ih1 ih2 =>
    intro a hh
    simp only [Option.bind_eq_some_iff] at hh
    obtain ⟨a', h1, b, h2, he⟩ := hh
    cases he
    exact .seq c d a' b (ih1 h1) (ih2 h2)
  | case14 o0 g h x c d _ ih1 ih2 =>
    intro a hh
    simp only [Option.bind_eq_some_iff] at hh
    obtain ⟨o, ho, a', h1, b, h2, he⟩ := hh
    cases he
    exact .cond x o c d a' b (compO_spec hG ho) (ih1 h1) (ih2 h2)
  | case15 i0 g id c ih =>
    intro a h
    simp only [Option.bind_eq_some_iff] at h
    obtain ⟨a', h1, he⟩ := h
    cases he
    exact .block id c a' (ih h1)
  | case16 g c ih =>
    intro a h
    simp only [Option.bind_eq_some_iff] at h
    obtain ⟨a', h1, he⟩ := h
    cases he
    exact .loop c a' (ih h1)
  | case17 => intro a h; cases h; exact .exit _
  | case18 => intro a h; cases h; exact .ret
  | case19 => intro a h; cases h

def compR (P : Program) : List ResultVar → Option (List Rv)
  | [] => some []
  | .tmp t :: r => (compR P r).bind fun l => some (.t t :: l)
  | .cell a ty :: r => (aggT P ty).bind fun g => (compR P r).bind fun l => some (.c a g :: l)

theorem compR_spec : ∀ {r : List ResultVar} {l : List Rv}, compR P r = some l → ResOk P r l
  | [], l, h => by simp only [compR, Option.some.injEq] at h; subst h; exact .nil
  | .tmp t :: r, l, h => by
    simp only [compR, Option.bind_eq_some_iff] at h
    obtain ⟨l', h1, he⟩ := h
    cases he
    exact .tmp t r l' (compR_spec h1)
  | .cell a ty :: r, l, h => by
    simp only [compR, Option.bind_eq_some_iff] at h
    obtain ⟨g, h1, l', h2, he⟩ := h
    cases he
    exact .cell a ty g r l' (aggT_spec h1) (compR_spec h2)

/-- A function of the program's, with the interpreter's marks put in. -/
def compF (P : Program) (G : Nat → Option A) (f : Func) (F : Fn) : Option Fn :=
  f.body.bind fun c => (compA P G f.ntmps F.pb F.body c).bind fun b => (compR P f.results.toList).bind fun rs =>
    if (f.name == "runtime.NumGoroutine") = false ∧ F.np ≤ f.ntmps then some ⟨F.np, F.sp, F.mvp, F.pb, rs, b⟩ else none

theorem compF_spec (hG : GOk mg G) {n : Nat} {f : Func} {F : Fn} (hf : P.funcs[n]? = some f) (h : compF P G f F = some F) : FnOk mg P n F := by
  simp only [compF, Option.bind_eq_some_iff] at h
  obtain ⟨c, h1, b, h2, rs, h3, h4⟩ := h
  split at h4
  · rename_i hc
    have e := Option.some.inj h4
    refine ⟨f, c, hf, h1, hc.1, hc.2, ?_, ?_⟩
    · rw [← e]; simp only; exact compA_spec hG _ _ h2
    · rw [← e]; simp only; exact compR_spec h3
  · cases h4

end Go.Es

namespace Go.Es

variable {P : Program} {H : Type} {enc : TypeId × Value → H}

/-! ### what a law is given -/
/-- is the datum of a type an aggregate? -/
def aggShape (P : Program) (t : TypeId) (x : D) : Prop :=
  match P.underlying t with
  | some (.struct _) | some (.array _ _) => ∃ l, x = .agg l
  | _ => ∃ y, x = y ∧ y.flat = true

/-- Cells that are a type's. -/
inductive OfT (P : Program) : TypeId → List D → Prop where
  | bool (t : TypeId) (b : Bool) (h : P.underlying t = some .bool) : OfT P t [.bool b]
  | int (t : TypeId) (k : IntKind) (n : Int) (h : P.underlying t = some (.int k)) (hw : (Lit.int k n).wf = true) : OfT P t [.int k n]
  | str (t : TypeId) (s : List UInt8) (h : P.underlying t = some .string) (hl : s.length ≤ maxLen) : OfT P t [.str s]
  | slice (t e : TypeId) (es : List D) (h : P.underlying t = some (.slice e)) (hl : es.length ≤ maxLen) (hc : ∀ i (h : i < es.length), OfT P e es[i].cells) (ha : ∀ i (h : i < es.length), aggShape P e es[i]) : OfT P t [.sl es]
  | struct (t : TypeId) (fs : Array Field) (cs : List D) (h : P.underlying t = some (.struct fs)) (hl : cs.length = P.cellsOf t)
      (hf : ∀ f ∈ fs.toList, OfT P f.type ((cs.drop f.offset).take (P.cellsOf f.type))) : OfT P t cs
  | array (t n e : Nat) (cs : List D) (h : P.underlying t = some (.array n e)) (hl : cs.length = P.cellsOf t)
      (hf : ∀ i, i < n → OfT P e ((cs.drop (i * P.cellsOf e)).take (P.cellsOf e))) : OfT P t cs

/-- Pieces that lie one behind the other. -/
def conseq : Nat → List (Nat × Nat) → Nat → Bool
  | o, [], e => o == e
  | o, (off, n) :: r, e => off == o && conseq (o + n) r e

/-- A type of plain data, whose parts are among S. -/
def plain1 (P : Program) (S : List TypeId) (t : TypeId) : Bool := match P.underlying t with
  | some .bool | some (.int _) | some .string => true
  | some (.slice e) => decide (0 < P.cellsOf e) && S.contains e
  | some (.struct fs) => conseq 0 (fs.toList.map fun f => (f.offset, P.cellsOf f.type)) (P.cellsOf t) && fs.toList.all fun f => S.contains f.type
  | some (.array n e) => (n * P.cellsOf e == P.cellsOf t) && S.contains e
  | _ => false
/-- S is closed, and t is in it: types may come again in their own parts. -/
def plainT (P : Program) (S : List TypeId) (t : TypeId) : Bool := S.contains t && S.all (plain1 P S)
theorem plainT_sub {P : Program} {S : List TypeId} {t e : TypeId} (h : plainT P S t = true) (he : S.contains e = true) : plainT P S e = true := by
  unfold plainT at h ⊢
  rw [Bool.and_eq_true] at h ⊢
  exact ⟨he, h.2⟩
theorem plainT_one {P : Program} {S : List TypeId} {t : TypeId} (h : plainT P S t = true) : plain1 P S t = true := by
  unfold plainT at h
  rw [Bool.and_eq_true, List.all_eq_true] at h
  exact h.2 t (by simpa using h.1)

theorem conseq_le : ∀ {r : List (Nat × Nat)} {o e : Nat}, conseq o r e = true → ∀ p ∈ r, o ≤ p.1
  | [], _, _, _, p, hp => by cases hp
  | (off, n) :: r, o, e, h, p, hp => by
    simp only [conseq, Bool.and_eq_true, beq_iff_eq] at h
    rcases List.mem_cons.1 hp with rfl | hp
    · simp only; omega
    · have := conseq_le h.2 p hp; omega

theorem VC.append {m : Mm} {a b : List D} {x y : List Value} (h : VC m a x) (k : VC m b y) : VC m (a ++ b) (x ++ y) := by
  obtain ⟨hl, hc⟩ := h
  obtain ⟨kl, kc⟩ := k
  refine ⟨by simp [hl, kl], fun j hj => ?_⟩
  rw [List.length_append] at hj
  by_cases e : j < a.length
  · have e' : j < x.length := by omega
    simp only [List.getElem_append, dif_pos e, dif_pos e']
    exact hc j e
  · have e' : ¬ j < x.length := by omega
    simp only [List.getElem_append, dif_neg e, dif_neg e']
    have := kc (j - a.length) (by omega)
    simpa only [hl] using this

theorem pieces {m : Mm} {vs : List Value} {α : Type} (off sz : α → Nat) (R : α → List D → Prop) : ∀ (ps : List α) (o : Nat), conseq o (ps.map fun p => (off p, sz p)) vs.length = true →
    (∀ p ∈ ps, ∃ c, R p c ∧ VC m c ((vs.drop (off p)).take (sz p))) → ∃ cs, VC m cs (vs.drop o) ∧ ∀ p ∈ ps, R p ((cs.drop (off p - o)).take (sz p))
  | [], o, h, _ => by
    simp only [List.map_nil, conseq, beq_iff_eq] at h
    subst h
    exact ⟨[], ⟨by simp, fun j hj => by simp at hj⟩, fun p hp => by cases hp⟩
  | p :: r, o, h, hp => by
    simp only [List.map_cons, conseq, Bool.and_eq_true, beq_iff_eq] at h
    obtain ⟨ho, hr⟩ := h
    obtain ⟨c, h1, h2⟩ := hp p (by simp)
    obtain ⟨cs, h3, h4⟩ := pieces off sz R r (o + sz p) hr (fun q hq => hp q (by simp [hq]))
    have hlen : o + sz p ≤ vs.length := by
      have : ∀ {r : List (Nat × Nat)} {o e : Nat}, conseq o r e = true → o ≤ e := by
        intro r
        induction r with
        | nil => intro o e h; simp only [conseq, beq_iff_eq] at h; omega
        | cons p r ih =>
          intro o e h
          simp only [conseq, Bool.and_eq_true, beq_iff_eq] at h
          have := ih h.2; omega
      exact this hr
    rw [ho] at h2
    have hcl : c.length = sz p := by have := h2.1; simp at this; omega
    refine ⟨c ++ cs, ?_, fun q hq => ?_⟩
    · have e : vs.drop o = (vs.drop o).take (sz p) ++ vs.drop (o + sz p) := by
        rw [← List.drop_drop, List.take_append_drop]
      rw [e]
      exact h2.append h3
    · rcases List.mem_cons.1 hq with rfl | hq
      · rw [ho, Nat.sub_self, List.drop_zero, List.take_append_of_le_length (by omega), ← hcl, List.take_length]
        exact h1
      · have hle : o + sz p ≤ off q := conseq_le hr (off q, sz q) (List.mem_map.2 ⟨q, hq, rfl⟩)
        have := h4 q hq
        rw [List.drop_append, List.drop_eq_nil_of_le (by omega), List.nil_append, hcl]
        rwa [show off q - o - sz p = off q - (o + sz p) from by omega]

theorem list_of {α : Type} {Q : Nat → α → Prop} : ∀ {n : Nat}, (∀ i, i < n → ∃ x, Q i x) → ∃ l : List α, l.length = n ∧ ∀ i (h : i < l.length), Q i l[i]
  | 0, _ => ⟨[], rfl, fun i h => by simp at h⟩
  | n + 1, h => by
    obtain ⟨l, hl, hq⟩ := list_of (n := n) fun i hi => h i (by omega)
    obtain ⟨x, hx⟩ := h n (by omega)
    refine ⟨l ++ [x], by simp [hl], fun i hi => ?_⟩
    rw [List.length_append, List.length_singleton] at hi
    by_cases e : i < l.length
    · rw [List.getElem_append_left e]; exact hq i e
    · have : i = n := by omega
      subst this
      rw [List.getElem_append_right (by omega)]
      simpa [hl] using hx

def mW (W : World) : Mm := fun b o => W.cell? ⟨b, o, none⟩

/-- Cells of a type, as one datum. -/
theorem OfT.datum {t : TypeId} {cs : List D} (h : OfT P t cs) : ∃ x : D, x.cells = cs ∧ aggShape P t x ∧ ∀ {m : Mm} {vs : List Value}, VC m cs vs → ∀ v : Value, v.cells.toList = vs → (∀ l, v = .agg l → ∃ d, P.underlying t = some d ∧ isAggD d = true) →
    ((∃ d, P.underlying t = some d ∧ isAggD d = true) → ∃ l, v = .agg l) → RD m x v := by
  have agg : ∀ (d : TypeDesc), P.underlying t = some d → isAggD d = true → ∃ x : D, x.cells = cs ∧ aggShape P t x ∧ ∀ {m : Mm} {vs : List Value}, VC m cs vs → ∀ v : Value, v.cells.toList = vs → (∀ l, v = .agg l → ∃ d, P.underlying t = some d ∧ isAggD d = true) →
      ((∃ d, P.underlying t = some d ∧ isAggD d = true) → ∃ l, v = .agg l) → RD m x v := by
    intro d hu hd
    refine ⟨.agg cs, rfl, ?_, fun {m vs} hvc v hv _ h2 => ?_⟩
    · unfold aggShape
      rw [hu]
      cases d <;> simp [isAggD] at hd <;> exact ⟨cs, rfl⟩
    · obtain ⟨l, rfl⟩ := h2 ⟨d, hu, hd⟩
      obtain ⟨hl, hc⟩ := hvc
      subst hv
      exact .agg cs l (by simpa [Value.cells] using hl.symm) (fun j hj => (hc j hj).1) (fun j hj => by simpa [Value.cells] using (hc j hj).2)
  have one : ∀ (d : TypeDesc) (y : D), P.underlying t = some d → isAggD d = false → cs = [y] → y.cells = [y] → y.flat = true → ∃ x : D, x.cells = cs ∧ aggShape P t x ∧ ∀ {m : Mm} {vs : List Value}, VC m cs vs → ∀ v : Value, v.cells.toList = vs → (∀ l, v = .agg l → ∃ d, P.underlying t = some d ∧ isAggD d = true) →
      ((∃ d, P.underlying t = some d ∧ isAggD d = true) → ∃ l, v = .agg l) → RD m x v := by
    rintro d y hu hd rfl hy hf
    refine ⟨y, hy, ?_, fun {m vs} hvc v hv h1 _ => ?_⟩
    · unfold aggShape
      rw [hu]
      cases d <;> simp [isAggD] at hd <;> exact ⟨y, rfl, hf⟩
    · have hv' : v.cells = #[v] := by
        cases v with
        | agg l => obtain ⟨d', h3, h4⟩ := h1 l rfl; rw [hu] at h3; cases h3; rw [hd] at h4; cases h4
        | _ => rfl
      obtain ⟨hl, hc⟩ := hvc
      subst hv
      have := (hc 0 (by simp)).2
      simpa [hv'] using this
  cases h with
  | bool _ b h => exact one _ (.bool b) h rfl rfl rfl rfl
  | int _ k n h hw => exact one _ (.int k n) h rfl rfl rfl rfl
  | str _ s h hl => exact one _ (.str s) h rfl rfl rfl rfl
  | slice _ e es h hl hc ha => exact one _ (.sl es) h rfl rfl rfl rfl
  | struct _ fs _ h hl hf => exact agg _ h rfl
  | array _ n e _ h hl hf => exact agg _ h rfl

theorem cells_read {W : World} {base : Nat} {a : Addr} {n : Nat} {cs : List Value} (h : W.cells? base a n = some cs) : cs.length = n ∧ ∀ j (hj : j < cs.length), W.cell? (a.add j) = some cs[j] := by
  unfold World.cells? at h
  split at h
  · have hl : cs.length = n := by have := mapM_some_length h; rw [List.length_range] at this; exact this
    refine ⟨hl, fun j hj => ?_⟩
    have := mapM_some_get h j j (by rw [List.getElem?_range (by omega)])
    rw [this, List.getElem?_eq_getElem hj]
  · cases h

theorem cell_spot {W : World} {a : Addr} {v : Value} (h : W.cell? a = some v) : a.spot = none := by
  simp only [World.cell?] at h
  split at h
  · cases hs : a.spot with
    | none => rfl
    | some s => simp [hs] at h
  · cases h

theorem trod_read {W : World} {S : List TypeId} {base : Nat} {sp : Nat → Bool} {held : Bool} : ∀ (n : Nat) (t : TypeId) (vs : List Value) (x : DataW H × List MemPlace), plainT P S t = true → DataW.trod enc P W base sp held n t vs = some x →
    ∃ cs, OfT P t cs ∧ VC (mW W) cs vs
  | 0, _, _, _, _, ht => by simp [DataW.trod] at ht
  | n + 1, t, vs, x, hp, ht => by
    have h := plainT_one hp
    have single : ∀ {y : D} {v : Value}, y.flat = true → RD (mW W) y v → VC (mW W) [y] [v] := fun hf hr => ⟨rfl, fun j hj => by
      have : j = 0 := by simpa using hj
      subst this
      exact ⟨hf, hr⟩⟩
    unfold plain1 at h
    split at h
    · rename_i hu
      obtain ⟨b, rfl, _⟩ := DataW.trod_bool hu ht
      exact ⟨_, .bool t b hu, single rfl (.bool b)⟩
    · rename_i k hu
      obtain ⟨z, rfl, _, hw⟩ := DataW.trod_int hu ht
      exact ⟨_, .int t k z hu hw, single rfl (.int k z)⟩
    · rename_i hu
      obtain ⟨s, rfl, _, hs⟩ := DataW.trod_string hu ht
      refine ⟨_, .str t s.data.toList hu (by rw [Array.length_toList]; exact hs), single rfl ?_⟩
      exact RD.str (m := mW W) s.data.toList
    · rename_i e hu
      rw [Bool.and_eq_true, decide_eq_true_eq] at h
      rcases DataW.trod_slice hu ht with ⟨rfl, _⟩ | ⟨a, len, cap, elems, rest, n', hn', rfl, _, hb, hlen, hcap, hel, hread, _, _⟩
      · exact ⟨_, .slice t e [] hu (by simp) (fun i h => by simp at h) (fun i h => by simp at h), single rfl (.sl0 _ _ (fun _ => rfl))⟩
      · by_cases h0 : len = 0
        · subst h0
          exact ⟨_, .slice t e [] hu (by simp) (fun i h => by simp at h) (fun i h => by simp at h), single rfl (.sl0 _ _ (fun h => by cases h))⟩
        · have each : ∀ i, i < len → ∃ p : D × List Value, W.cells? base (a.add (i * P.cellsOf e)) (P.cellsOf e) = some p.2 ∧ OfT P e p.1.cells ∧ aggShape P e p.1 ∧ VC (mW W) p.1.cells p.2 := by
            intro i hi
            have h1 := hread i hi
            rw [List.getElem?_eq_getElem (by omega), Option.bind_eq_some_iff] at h1
            obtain ⟨cs, h2, h3⟩ := h1
            obtain ⟨ds, h4, h5⟩ := trod_read n e cs _ (plainT_sub hp h.2) (by rw [show n = n' from by omega]; exact h3)
            obtain ⟨y, hy, hsh, _⟩ := h4.datum
            subst hy
            exact ⟨(y, cs), h2, h4, hsh, h5⟩
          obtain ⟨l, hl, hq⟩ := list_of each
          obtain ⟨c0l, c0⟩ := cells_read (hq 0 (by omega)).1
          have hsp0 := cell_spot (c0 0 (by omega))
          have ha : a = ⟨a.block, a.off, none⟩ := by
            obtain ⟨b, o, s⟩ := a
            cases s with
            | none => rfl
            | some s => simp [Addr.add] at hsp0
          generalize a.block = b at ha
          generalize a.off = o at ha
          subst ha
          have hml : (l.map (·.1)).length = len := by simp [hl]
          refine ⟨[.sl (l.map (·.1))], .slice t e _ hu (by rw [hml]; omega) (fun i hi => ?_) (fun i hi => ?_), single rfl ?_⟩
          · simp only [List.getElem_map]; exact (hq i (by simpa using hi)).2.1
          · simp only [List.getElem_map]; exact (hq i (by simpa using hi)).2.2.1
          · have := RD.sl (m := mW W) (l.map (·.1)) b o cap (P.cellsOf e) (fun i j => ((l.getD i default).2).getD j undef) (by rw [hml]; exact hlen) (fun i hi => by
              simp only [List.getElem_map]
              obtain ⟨q1, _, _, q4, _⟩ := hq i (by simpa using hi)
              rw [q4, (cells_read q1).1]) (fun i j hi hj => by
              have hi' : i < l.length := by simpa using hi
              obtain ⟨q1, _, _, q4, _⟩ := hq i hi'
              obtain ⟨r1, r2⟩ := cells_read q1
              have := r2 j (by omega)
              rw [addr_add, addr_add] at this
              show W.cell? _ = _
              rw [this]
              simp [hi', r1, hj]) (fun i j hi hj => by
              have hi' : i < l.length := by simpa using hi
              simp only [List.getElem_map] at hj ⊢
              obtain ⟨_, _, _, q4, q5⟩ := hq i hi'
              exact (q5 j hj).1) (fun i j hi hj => by
              have hi' : i < l.length := by simpa using hi
              simp only [List.getElem_map] at hj ⊢
              obtain ⟨_, _, _, q4, q5⟩ := hq i hi'
              have hj2 : j < (l[i]).2.length := by omega
              simpa [hi', hj2] using (q5 j hj).2)
            rw [hml] at this
            exact this
    · rename_i fs hu
      rw [Bool.and_eq_true, List.all_eq_true] at h
      obtain ⟨xs, n', hn', _, hlen, hxl, hf⟩ := DataW.trod_struct hu ht
      obtain ⟨cs, hv, hr⟩ := pieces (m := mW W) (vs := vs) (fun f : Field => f.offset) (fun f => P.cellsOf f.type) (fun f c => OfT P f.type c) fs.toList 0 (by rw [hlen]; exact h.1) (fun f hfm => by
        obtain ⟨i, hi, rfl⟩ := List.mem_iff_getElem.1 hfm
        have := hf i fs.toList[i] (by rw [← Array.getElem?_toList]; exact List.getElem?_eq_getElem hi)
        rw [List.getElem?_eq_getElem (by simp at hi; omega)] at this
        exact trod_read n _ _ _ (plainT_sub hp (h.2 _ hfm)) (by rw [show n = n' from by omega]; exact this))
      rw [List.drop_zero] at hv
      refine ⟨cs, .struct t fs cs hu (by rw [hv.1, hlen]) (fun f hfm => by simpa using hr f hfm), hv⟩
    · rename_i m e hu
      rw [Bool.and_eq_true, beq_iff_eq] at h
      obtain ⟨xs, n', hn', _, hlen, hxl, hf⟩ := DataW.trod_array hu ht
      have hcs : ∀ (k o : Nat), conseq (o * P.cellsOf e) ((List.range' o k).map fun i => (i * P.cellsOf e, P.cellsOf e)) ((o + k) * P.cellsOf e) = true := by
        intro k
        induction k with
        | zero => intro o; simp [conseq]
        | succ k ih =>
          intro o
          simp only [List.range'_succ, List.map_cons, conseq, beq_self_eq_true, Bool.true_and]
          have := ih (o + 1)
          rw [Nat.add_mul, Nat.one_mul] at this
          rwa [show o + (k + 1) = o + 1 + k from by omega]
      obtain ⟨cs, hv, hr⟩ := pieces (m := mW W) (vs := vs) (fun i : Nat => i * P.cellsOf e) (fun _ => P.cellsOf e) (fun _ c => OfT P e c) (List.range' 0 m) 0 (by
        have := hcs m 0
        rw [Nat.zero_mul, Nat.zero_add, h.1] at this
        rw [hlen]; exact this) (fun i him => by
        have hi : i < m := by simpa using him
        have := hf i hi
        rw [List.getElem?_eq_getElem (by omega)] at this
        exact trod_read n _ _ _ (plainT_sub hp h.2) (by rw [show n = n' from by omega]; exact this))
      rw [List.drop_zero] at hv
      refine ⟨cs, .array t m e cs hu (by rw [hv.1, hlen]) (fun i hi => by simpa using hr i (by simpa using hi)), hv⟩
    · cases h

end Go.Es

namespace Go.Es
open Go.ChangeShapes Go.WideShapes Go.ChangeAt Go.RowKit

variable {P : Program} {H : Type} {enc : TypeId × Value → H}

/-- A datum of a type. -/
def DatumOf (P : Program) (t : TypeId) (x : D) : Prop := OfT P t x.cells ∧ aggShape P t x

inductive DataOf (P : Program) : List TypeId → List D → Prop where
  | nil : DataOf P [] []
  | cons {t : TypeId} {x : D} {ts : List TypeId} {xs : List D} (h : DatumOf P t x) (k : DataOf P ts xs) : DataOf P (t :: ts) (x :: xs)

theorem cellOk_agg {W : World} {r : Reach} {base : Nat} {t : TypeId} {l : Array Value} (h : Cell.okWide P W r base t (.agg l)) : False := by
  unfold Cell.okWide at h
  split at h <;> first
    | (rename_i h1 h2; cases h2; done)
    | (unfold Cell.ok at h; split at h <;> first | exact h.elim | (rename_i h1 h2; cases h2; done))

theorem okWide_shape {W : World} {r : Reach} {base : Nat} {t : TypeId} {v : Value} (h : Value.okWide P W r base t v) (hu : ∃ d, P.underlying t = some d) :
    (∀ l, v = .agg l → ∃ d, P.underlying t = some d ∧ isAggD d = true) ∧ ((∃ d, P.underlying t = some d ∧ isAggD d = true) → ∃ l, v = .agg l) := by
  obtain ⟨d, hd⟩ := hu
  unfold Value.okWide at h
  rw [hd] at h
  cases d with
  | struct fs =>
    obtain ⟨cs, rfl, _⟩ := h
    exact ⟨fun _ _ => ⟨_, hd, rfl⟩, fun _ => ⟨cs, rfl⟩⟩
  | array n e =>
    obtain ⟨cs, rfl, _⟩ := h
    exact ⟨fun _ _ => ⟨_, hd, rfl⟩, fun _ => ⟨cs, rfl⟩⟩
  | _ =>
    refine ⟨fun l hl => ?_, fun ⟨d', h1, h2⟩ => ?_⟩
    · subst hl; exact (cellOk_agg h).elim
    · rw [hd] at h1; cases h1; cases h2

theorem OfT.under {t : TypeId} {cs : List D} (h : OfT P t cs) : ∃ d, P.underlying t = some d := by
  cases h <;> exact ⟨_, by assumption⟩

/-- The arguments, as data. -/
theorem args_read {S : List TypeId} {W : World} {base : Nat} {sp : Nat → Bool} {held : Bool} : ∀ {ts : List TypeId} {vs : List Value} {ds : List (DataW H)} {ps : List MemPlace}, DataW.TrodAll enc P W base sp held ts vs ds ps →
    (∀ t ∈ ts, plainT P S t = true) → (∀ (j : Nat) t v, ts[j]? = some t → vs[j]? = some v → ∃ b, Value.okWide P W .any b t v) →
    ∃ xs, DataOf P ts xs ∧ Each (RT (mW W) W) (xs.map T.d) vs []
  | [], [], [], ps, _, _, _ => ⟨[], .nil, .nil⟩
  | t :: ts, v :: vs, d :: ds, ps, h, hp, hv => by
    obtain ⟨p, q, ⟨n, h1⟩, h2, rfl⟩ := h
    obtain ⟨xs, hx, hr⟩ := args_read h2 (fun t ht => hp t (by simp [ht])) (fun j t v hj hv' => hv (j + 1) t v (by simpa using hj) (by simpa using hv'))
    obtain ⟨cs, hc, hvc⟩ := trod_read n t _ _ (hp t (by simp)) h1
    obtain ⟨b, hok⟩ := hv 0 t v rfl rfl
    obtain ⟨sh1, sh2⟩ := okWide_shape hok hc.under
    obtain ⟨x, hxc, hxa, hxr⟩ := hc.datum
    subst hxc
    exact ⟨x :: xs, .cons ⟨hc, hxa⟩ hx, .cons (b := []) (.one (.cell (.d (hxr hvc v rfl sh1 sh2)))) hr⟩
  | [], [], _ :: _, _, h, _, _ => h.elim
  | [], _ :: _, _, _, h, _, _ => h.elim
  | _ :: _, [], _, _, h, _, _ => h.elim
  | _ :: _, _ :: _, [], _, h, _, _ => h.elim

/-- The arguments read behind the call as they did. -/
theorem args_again {W W' : World} (hl : laidOutB P = true) (hb : Below W.heap.size W W') : ∀ {ts : List TypeId} {vs : List Value} {ds : List (DataW H)} {ps : List MemPlace}, DataW.TrodAll enc P W 0 (fun _ => true) true ts vs ds ps →
    (∀ t ∈ ts, P.readableRec t = true ∧ t < P.types.size) → DataW.TrodAll enc P W' 0 (fun b => decide (b < W.heap.size)) true ts vs ds ps
  | [], [], [], ps, h, _ => h
  | t :: ts, v :: vs, d :: ds, ps, h, hp => by
    obtain ⟨p, q, h1, h2, rfl⟩ := h
    refine ⟨p, q, Below.trod hl (hp t (by simp)).1 (hp t (by simp)).2 h1 hb (fun x hx => ?_), args_again hl hb h2 (fun t ht => hp t (by simp [ht])), rfl⟩
    obtain ⟨n, hn⟩ := h1
    exact DataW.trod_lt n t _ _ hn x hx
  | [], [], _ :: _, _, h, _ => h.elim
  | [], _ :: _, _, _, h, _ => h.elim
  | _ :: _, [], _, _, h, _ => h.elim
  | _ :: _, _ :: _, [], _, h, _ => h.elim

theorem Does.calls {f : FuncId} {fn : Func} {args : Array Value} {W : World} {R : Ending → World → Prop} (hf : P.funcs[f]? = some fn) (hb : fn.body.isSome = true) (hn : (fn.name == "runtime.NumGoroutine") = false)
    (h : Does P f args W R) : Calls P f args W R := by
  rcases h with ⟨_, h⟩ | ⟨v, w', h, _⟩
  · exact h
  · rw [run_callFunc_enter hf hb hn] at h; cases h

/-- A law that answers true, whatever it is given. -/
theorem law_callsG {mg : Mm} {f : FuncId} {fn : Func} {s : ChangeSpec} {R : List T → Option (T × List T)} {S : List TypeId} {tb : TypeId} (hf : P.funcs[f]? = some fn) (hb : fn.body.isSome = true) (hn : (fn.name == "runtime.NumGoroutine") = false) (hl : laidOutB P = true)
    (hread : ∀ t ∈ fn.params.toList, P.readableRec t = true ∧ t < P.types.size) (hplain : ∀ t ∈ fn.params.toList, plainT P S t = true) (hres : fn.resultTypes = #[tb]) (htb : P.underlying tb = some .bool)
    (hM : Meets mg P f R) (hS : ∀ xs, DataOf P fn.params.toList xs → ∃ a, R (xs.map T.d) = some (.d (.bool true), a)) (hvars : s.vars = [])
    (hfn : ∀ ds : List (DataW H), ds.length = fn.params.size → s.fn H ds = { results := [.lit (.bool true)], args := ds })
    {W : World} {base : Nat} {args : Array Value} {ds gs : List (DataW H)} {before : List MemPlace} (hval : ∀ (j : Nat) t v, fn.params[j]? = some t → args[j]? = some v → Value.okWide P W .any base t v)
    (hW : DataW.Whole enc P fn.params.toList s.vars false W args.toList ds gs before) (hmg : mg.le (mW W)) :
    Calls P f args W fun e W' => ∃ v, e = .returned v ∧ s.post enc P fn false true false false W args v W' := by
  have hW' := hW
  obtain ⟨p, q, hA, hV, hbef, hfz, hnd⟩ := hW
  rw [hvars] at hV
  have hgs : gs = [] ∧ q = [] := by
    cases gs with
    | nil => exact ⟨rfl, hV⟩
    | cons _ _ => exact hV.elim
  obtain ⟨rfl, rfl⟩ := hgs
  obtain ⟨xs, hx, hr⟩ := args_read hA hplain (fun j t v hj hv => ⟨base, hval j t v (by simpa using hj) (by simpa using hv)⟩)
  obtain ⟨a, ha⟩ := hS xs hx
  have hlen : ds.length = fn.params.size := by
    have := (trodAll_length hA).2
    simpa using this
  have hc := (hM (mW W) W (xs.map T.d) args.toList [] hmg (fun b o v h => h) hr List.nodup_nil (fun b hb => by cases hb) _ _ ha).calls hf hb hn
  simp only [Array.toArray_toList] at hc
  refine hc.mono fun e W' ⟨v, m', rbs, abs, he, af⟩ => ⟨v, he, ?_⟩
  have hv : v = .bool true := by
    have := af.res
    cases this with | one h => cases h with | cell h => cases h with | d h => cases h; rfl
  subst hv
  have bel : Below W.heap.size W W' := ⟨af.os, af.tape, af.output, af.size.1, fun k hk => (af.keep k hk (by simp)).1⟩
  have hspec := hfn ds hlen
  refine ⟨ds, [], before, [], p, [], hW', ?_, ?_, ?_, bel.frame _, fun h => by cases h⟩
  · rw [List.append_nil, hspec, hres]
    exact trodAll_mk1 (shut_bool htb _)
  · rw [List.append_nil, hspec]
    exact args_again hl bel hA hread
  · rw [List.append_nil, hspec, hvars]
    rfl

theorem law_calls {f : FuncId} {fn : Func} {s : ChangeSpec} {R : List T → Option (T × List T)} {S : List TypeId} {tb : TypeId} (hf : P.funcs[f]? = some fn) (hb : fn.body.isSome = true) (hn : (fn.name == "runtime.NumGoroutine") = false) (hl : laidOutB P = true)
    (hread : ∀ t ∈ fn.params.toList, P.readableRec t = true ∧ t < P.types.size) (hplain : ∀ t ∈ fn.params.toList, plainT P S t = true) (hres : fn.resultTypes = #[tb]) (htb : P.underlying tb = some .bool)
    (hM : Meets (fun _ _ => none) P f R) (hS : ∀ xs, DataOf P fn.params.toList xs → ∃ a, R (xs.map T.d) = some (.d (.bool true), a)) (hvars : s.vars = [])
    (hfn : ∀ ds : List (DataW H), ds.length = fn.params.size → s.fn H ds = { results := [.lit (.bool true)], args := ds })
    {W : World} {base : Nat} {args : Array Value} {ds gs : List (DataW H)} {before : List MemPlace} (hval : ∀ (j : Nat) t v, fn.params[j]? = some t → args[j]? = some v → Value.okWide P W .any base t v)
    (hW : DataW.Whole enc P fn.params.toList s.vars false W args.toList ds gs before) :
    Calls P f args W fun e W' => ∃ v, e = .returned v ∧ s.post enc P fn false true false false W args v W' :=
  law_callsG hf hb hn hl hread hplain hres htb hM hS hvars hfn hval hW (fun b o v h => by cases h)

/-- A table of numbers among the package-level variables. -/
theorem tab_elt {g : Gh} {bx : Bx} {b : Nat} {l : List Int} {k : IntKind} (h : ∀ j (hj : j < l.length), g.m b j = some (.int k l[j])) : RA g bx (.elt (.agg (l.map (D.int k))) 0) (.pointer (some ⟨b, 0, none⟩)) := by
  refine RA.elt (g := g) (bx := bx) (.agg (l.map (D.int k))) 0 b 0 (fun j => .int k (l.getD j 0)) (fun j hj => ?_) (fun j hj => ?_) (fun j hj => ?_)
  · simp only [D.cells, List.length_map] at hj
    rw [Nat.zero_add, h j hj, List.getD_eq_getElem?_getD, List.getElem?_eq_getElem hj]; rfl
  · simp only [D.cells, List.getElem_map]; rfl
  · simp only [D.cells, List.length_map] at hj
    simp only [D.cells, List.getElem_map, List.getD_eq_getElem?_getD, List.getElem?_eq_getElem hj, Option.getD_some]
    exact .int k _

end Go.Es

namespace Go.Es
variable {mg : Mm} {P : Program} {G : Nat → Option A}

/-! ### the interpreter's code, made out of the program's -/
/-- What is told of a place where orders are open: the operation's number, and its names. -/
abbrev Hint := List (Nat × List Id × Option (List Id))

def hintOf (h : Hint) (i : Nat) : Ao := match h with
  | [] => ⟨none, .mv, List.replicate 24 (.l 0), none, [], none⟩
  | (j, av, al) :: r => if j = i then ⟨none, .mv, (match al with | some _ => [] | none => List.replicate 24 (.l 0)), none, av, al⟩ else hintOf r i

/-- Slices are lent, but not to the functions nl. -/
def lendTo (nl : Nat → Bool) (o : Oper) (a : Ao) : Ao := match o.op with
  | .call c => match c.callee with
    | .value (.func f) => if nl f then { a with xs := [] } else a
    | _ => a
  | _ => a

def autoL (nl : Nat → Bool) (P : Program) (G : Nat → Option A) (N : Nat) (ops : Array Oper) (h : Hint) : Nat → List Oper → Option (List Ao)
  | _, [] => some []
  | i, o :: r => (compAo P G N ops o (lendTo nl o (hintOf h i))).bind fun a => (autoL nl P G N ops h (i + 1) r).bind fun l => some (a :: l)

theorem autoL_spec {nl : Nat → Bool} {N : Nat} {ops : Array Oper} {h : Hint} : ∀ {r : List Oper} {i : Nat} {l : List Ao}, autoL nl P G N ops h i r = some l → ∃ gs, compL P G N ops r gs = some l
  | [], i, l, e => by simp only [autoL, Option.some.injEq] at e; subst e; exact ⟨[], rfl⟩
  | o :: r, i, l, e => by
    simp only [autoL, Option.bind_eq_some_iff] at e
    obtain ⟨a, h1, l', h2, e⟩ := e
    cases e
    obtain ⟨gs, h3⟩ := autoL_spec h2
    exact ⟨lendTo nl o (hintOf h i) :: gs, by simp only [compL, h1, h3, Option.bind_some]⟩

def autoR (nl : Nat → Bool) (P : Program) (G : Nat → Option A) (N : Nat) (h : Hint) (ops : Array Oper) (draw : Bool) : Ac :=
  match autoL nl P G N ops h 0 ops.toList with
  | none => deadA
  | some l => if draw then (if P.follows .mixedOrders && drawB ops.toList l (preRows ops.toList []) then .ops l else deadA) else .ops l

theorem autoR_spec {nl : Nat → Bool} (hG : GOk mg G) {N : Nat} {pb : List Id} {h : Hint} {id : Nat} {ops : Array Oper} {draw : Bool} : FitsA mg P N pb (.region id ops draw) (autoR nl P G N h ops draw) := by
  unfold autoR
  cases e : autoL nl P G N ops h 0 ops.toList with
  | none => exact .dead _
  | some l =>
    obtain ⟨gs, h1⟩ := autoL_spec e
    obtain ⟨hl, hf⟩ := compL_spec hG h1
    have hr : RegOk mg P N ops l := ⟨by simpa using hl, fun i o ao ho ha => hf i o ao (by simpa using ho) ha⟩
    cases draw with
    | false => exact .region id ops l hr
    | true =>
      simp only [if_true]
      split
      · rename_i hc
        rw [Bool.and_eq_true] at hc
        exact .draw id ops l _ hc.1 hr (drawB_spec hc.2 hr.size)
      · exact .dead _

/-- The number of a code's first region. -/
def regA : Code → Option Nat
  | .region id _ _ => some id
  | .seq a b => match regA a with | some n => some n | none => regA b
  | .cond _ a b => match regA a with | some n => some n | none => regA b
  | .block _ c => regA c
  | .loop c => (regA c).map (· + 100000)
  | _ => none

/-- What a loop keeps at each round: told by the first region's number within it. -/
abbrev Keeps := Nat → Option (List Nat × List Id)

def keepL (pb : List Id) (k : Option (List Nat × List Id)) (a : Ac) : Ac := match k with
  | some (ts, bs) => if (pb.all (pb ++ bs).contains) then .seq (.keep ts (pb ++ bs)) a else a
  | none => a

theorem keepL_spec {N : Nat} {pb : List Id} {k : Option (List Nat × List Id)} {c : Code} {a : Ac} (h : FitsA mg P N pb c a) : FitsA mg P N pb c (keepL pb k a) := by
  unfold keepL
  split
  · split
    · rename_i hb; exact .keep _ _ _ _ hb h
    · exact h
  · exact h

def autoA (nl : Nat → Bool) (P : Program) (G : Nat → Option A) (N : Nat) (pb : List Id) (H : Nat → Hint) (KP : Keeps) (fz : List Gs) : Code → Ac
  | .skip => .skip
  | .region id ops draw => keepL pb (KP (id + 200000)) (autoR nl P G N (H id) ops draw)
  | .seq a b => .seq (autoA nl P G N pb H KP fz a) (autoA nl P G N pb H KP fz b)
  | .cond x a b => match compO G x with
    | some o => .cond o (autoA nl P G N pb H KP fz a) (autoA nl P G N pb H KP fz b)
    | none => deadA
  | .block id c => .block id (autoA nl P G N pb H KP fz c)
  | .loop c => .loop (keepL pb ((regA c).bind KP) (autoA nl P G N pb H KP fz c))
  | .exit id => .exit id
  | .ret => match fz with | [] => .ret | _ => .seq (.gh fz) .ret
  | _ => deadA

theorem autoA_spec {nl : Nat → Bool} (hG : GOk mg G) {N : Nat} {pb : List Id} {H : Nat → Hint} {KP : Keeps} {fz : List Gs} : ∀ c : Code, FitsA mg P N pb c (autoA nl P G N pb H KP fz c) := by
  intro c
  induction c with
  | skip => exact .skip
  | region id ops draw => exact keepL_spec (autoR_spec hG)
  | seq a b iha ihb => exact .seq _ _ _ _ iha ihb
  | cond x a b iha ihb =>
    simp only [autoA]
    split
    · rename_i o ho; exact .cond _ _ _ _ _ _ (compO_spec hG ho) iha ihb
    · exact .dead _
  | block id c ih => exact .block _ _ _ ih
  | loop c ih => exact .loop _ _ (keepL_spec ih)
  | exit id => exact .exit _
  | ret =>
    simp only [autoA]
    split
    · exact .ret
    · exact .gh _ _ _ .ret
  | _ => exact .dead _

def autoPb (n : Nat) : List Id := (List.range n).flatMap fun i => [i] :: (List.range 6).map fun j => [j, i]

def autoF (nl : Nat → Bool) (P : Program) (G : Nat → Option A) (sp : Bool) (H : Nat → Hint) (KP : Keeps) (fz : List Gs) (f : Func) : Option Fn :=
  f.body.bind fun c => (compR P f.results.toList).bind fun rs =>
    if (f.name == "runtime.NumGoroutine") = false ∧ f.params.size + f.nfree ≤ f.ntmps then
      some ⟨f.params.size + f.nfree, sp, true, autoPb (f.params.size + f.nfree), rs, match fz with | [] => autoA nl P G f.ntmps (autoPb (f.params.size + f.nfree)) H KP [] c | _ => .seq (autoA nl P G f.ntmps (autoPb (f.params.size + f.nfree)) H KP fz c) (.gh fz)⟩ else none

theorem autoF_spec {nl : Nat → Bool} (hG : GOk mg G) {n : Nat} {f : Func} {sp : Bool} {H : Nat → Hint} {KP : Keeps} {fz : List Gs} {F : Fn} (hf : P.funcs[n]? = some f) (h : autoF nl P G sp H KP fz f = some F) : FnOk mg P n F := by
  simp only [autoF, Option.bind_eq_some_iff] at h
  obtain ⟨c, h1, rs, h3, h4⟩ := h
  split at h4
  · rename_i hc
    cases h4
    refine ⟨f, c, hf, h1, hc.1, hc.2, ?_, compR_spec h3⟩
    split
    · exact autoA_spec hG c
    · exact .ghr _ _ _ (autoA_spec hG c)
  · cases h4

/-- sp n: n is held against nil; sp (n + 1000000): n is lent nothing. -/
def autoK (P : Program) (G : Nat → Option A) (sp : Nat → Bool) (H : Nat → Nat → Hint) (KP : Nat → Keeps) (n : Nat) (FZ : Nat → List Gs := fun _ => []) : Option Fn :=
  (P.funcs[n]?).bind fun f => autoF (fun i => sp (i + 1000000)) P G (sp n) (H n) (KP n) (FZ n) f

theorem autoK_spec (hG : GOk mg G) {sp : Nat → Bool} {H : Nat → Nat → Hint} {KP : Nat → Keeps} {FZ : Nat → List Gs} {n : Nat} {F : Fn} (h : autoK P G sp H KP n FZ = some F) : FnOk mg P n F := by
  simp only [autoK, Option.bind_eq_some_iff] at h
  obtain ⟨f, hf, h⟩ := h
  exact autoF_spec hG hf h

def autoT (P : Program) (G : Nat → Option A) (sp : Nat → Bool) (H : Nat → Nat → Hint) (n : Nat) : Option Fn := autoK P G sp H (fun _ _ => none) n

theorem autoT_spec (hG : GOk mg G) {sp : Nat → Bool} {H : Nat → Nat → Hint} {n : Nat} {F : Fn} (h : autoT P G sp H n = some F) : FnOk mg P n F := autoK_spec hG h
end Go.Es

namespace Go.Es

/-! ### a number that is looked at through a mask alone -/
section
variable (p d1 d : Nat) (m : Int)

def isMv : Ao → Bool
  | ⟨some e, .mv, [.t q], none, _, _⟩ => e == d1 && q == p
  | _ => false
def isAnd : Ao → Bool
  | ⟨some e, .bin .and, [.t q, .c (.d (.int .i64 n))], none, _, _⟩ => e == d && q == d1 && n == m
  | _ => false

/-- Operation d is 'p and m', through d1, wherever it stands; p is never written. -/
def okL : List Ao → Bool
  | [] => true
  | [o] => o.dst != some p && o.dst != some d
  | o :: o' :: r => o.dst != some p && o.dst != some d && (if o'.dst == some d then isMv p d1 o && isAnd d1 d m o' && okL r else okL (o' :: r))
def subL (v : A) : List Ao → List Ao
  | [] => []
  | [o] => [o]
  | o :: o' :: r => if o'.dst == some d then o :: ⟨some d, .mv, [.c v], none, [], none⟩ :: subL v r else o :: subL v (o' :: r)
def okA : Ac → Bool
  | .ops l => okL p d1 d m l
  | .keep _ _ => false
  | .gh _ => false
  | .seq a b => okA a && okA b
  | .cond _ a b => okA a && okA b
  | .block _ c => okA c
  | .loop c => okA c
  | _ => true
def subA (v : A) : Ac → Ac
  | .ops l => .ops (subL d v l)
  | .seq a b => .seq (subA v a) (subA v b)
  | .cond x a b => .cond x (subA v a) (subA v b)
  | .block i c => .block i (subA v c)
  | .loop c => .loop (subA v c)
  | c => c
end

variable {p d1 d : Nat} {m at_ : Int} {C : Cs}

theorem isMv_eq {o : Ao} (h : isMv p d1 o = true) : ∃ av al, o = ⟨some d1, .mv, [.t p], none, av, al⟩ := by
  unfold isMv at h
  split at h
  · simp only [Bool.and_eq_true, beq_iff_eq] at h
    obtain ⟨rfl, rfl⟩ := h
    exact ⟨_, _, rfl⟩
  · cases h
theorem isAnd_eq {o : Ao} (h : isAnd d1 d m o = true) : ∃ av al, o = ⟨some d, .bin .and, [.t d1, .c (.d (.int .i64 m))], none, av, al⟩ := by
  unfold isAnd at h
  split at h
  · simp only [Bool.and_eq_true, beq_iff_eq] at h
    obtain ⟨⟨rfl, rfl⟩, rfl⟩ := h
    exact ⟨_, _, rfl⟩
  · cases h

theorem step_other {o : Ao} {s s' : St} (h : o.dst ≠ some p) (hs : step C o s = some s') : s'.tm p = s.tm p := by
  have put : ∀ v b, (put' s o.dst v b).tm p = s.tm p := by
    intro v b
    unfold put'
    split
    · rename_i t ht
      simp only [upd]
      rw [if_neg]
      rintro rfl
      exact h ht
    · rfl
  unfold step at hs
  simp only [Option.bind_eq_some_iff] at hs
  obtain ⟨w, _, hs⟩ := hs
  split at hs
  · simp only [Option.bind_eq_some_iff] at hs
    obtain ⟨q, _, he⟩ := hs
    cases he
    exact put _ _
  · cases hs
    exact put _ _

theorem steps_sub (hdp : d ≠ p) : ∀ (l : List Ao) (s : St), okL p d1 d m l = true → s.tm p = .d (.int .i64 at_) →
    steps C l s = steps C (subL d (.d (.int .i64 (bitsOp .and .i64 at_ m))) l) s ∧ ∀ s', steps C l s = some s' → s'.tm p = .d (.int .i64 at_)
  | [], s, _, hp => ⟨rfl, fun s' h => by cases h; exact hp⟩
  | [o], s, hk, hp => by
    refine ⟨rfl, fun s' h => ?_⟩
    simp only [okL, Bool.and_eq_true, bne_iff_ne, ne_eq] at hk
    simp only [steps, Option.bind_eq_some_iff] at h
    obtain ⟨s1, h1, h2⟩ := h
    cases h2
    rw [step_other hk.1 h1, hp]
  | o :: o' :: r, s, hk, hp => by
    simp only [okL, Bool.and_eq_true, bne_iff_ne, ne_eq] at hk
    obtain ⟨⟨h1, h2⟩, hk⟩ := hk
    by_cases e : (o'.dst == some d) = true
    · rw [if_pos e] at hk
      simp only [Bool.and_eq_true] at hk
      obtain ⟨⟨hm, ha⟩, hr⟩ := hk
      obtain ⟨av, al, rfl⟩ := isMv_eq hm
      obtain ⟨av', al', rfl⟩ := isAnd_eq ha
      have hd1 : d1 ≠ p := fun h => h1 (by rw [h])
      have es : subL d (.d (.int .i64 (bitsOp .and .i64 at_ m))) (⟨some d1, .mv, [.t p], none, av, al⟩ :: ⟨some d, .bin .and, [.t d1, .c (.d (.int .i64 m))], none, av', al'⟩ :: r) =
          ⟨some d1, .mv, [.t p], none, av, al⟩ :: ⟨some d, .mv, [.c (.d (.int .i64 (bitsOp .and .i64 at_ m)))], none, [], none⟩ :: subL d (.d (.int .i64 (bitsOp .and .i64 at_ m))) r := by
        simp only [subL, e, if_true]
      rw [es]
      have e1 : step C ⟨some d1, .mv, [.t p], none, av, al⟩ s = some ⟨upd s.tm d1 (.d (.int .i64 at_)), s.bx⟩ := by
        simp only [step, wanted, Option.bind_some, if_true, List.map_cons, List.map_nil, O.ev, hp]; rfl
      have e2 : ∀ v, step C ⟨some d, .mv, [.c v], none, [], none⟩ ⟨upd s.tm d1 (.d (.int .i64 at_)), s.bx⟩ = some ⟨upd (upd s.tm d1 (.d (.int .i64 at_))) d v, s.bx⟩ := fun v => rfl
      have e3 : step C ⟨some d, .bin .and, [.t d1, .c (.d (.int .i64 m))], none, av', al'⟩ ⟨upd s.tm d1 (.d (.int .i64 at_)), s.bx⟩ = some ⟨upd (upd s.tm d1 (.d (.int .i64 at_))) d (.d (.int .i64 (bitsOp .and .i64 at_ m))), s.bx⟩ := by
        have : upd s.tm d1 (.d (.int .i64 at_)) d1 = .d (.int .i64 at_) := by simp [upd]
        simp only [step, wanted, Option.bind_some, if_true, List.map_cons, List.map_nil, O.ev, this]; rfl
      simp only [steps, e1, Option.bind_some, e2, e3]
      have hp' : (⟨upd (upd s.tm d1 (.d (.int .i64 at_))) d (.d (.int .i64 (bitsOp .and .i64 at_ m))), s.bx⟩ : St).tm p = .d (.int .i64 at_) := by
        simp only [upd]
        rw [if_neg (fun h => hdp h.symm), if_neg (fun h => hd1 h.symm), hp]
      exact steps_sub hdp r _ hr hp'
    · have e' : (o'.dst == some d) = false := by simpa using e
      rw [if_neg e] at hk
      have es : subL d (.d (.int .i64 (bitsOp .and .i64 at_ m))) (o :: o' :: r) = o :: subL d (.d (.int .i64 (bitsOp .and .i64 at_ m))) (o' :: r) := by
        simp only [subL, e', Bool.false_eq_true, if_false]
      rw [es]
      have ih := fun s1 hs1 => steps_sub hdp (o' :: r) s1 hk hs1
      generalize o' :: r = l' at ih
      simp only [steps]
      cases hs : step C o s with
      | none => exact ⟨rfl, fun s' h => by cases h⟩
      | some s1 =>
        simp only [Option.bind_some]
        exact ih s1 (by rw [step_other h1 hs, hp])

theorem iter_sub {f f' : St → Option (Out × St)} {I : St → Prop} (h : ∀ s, I s → f s = f' s ∧ ∀ o s', f s = some (o, s') → I s') : ∀ (k : Nat) (s : St), I s → iter f k s = iter f' k s ∧ ∀ o s', iter f k s = some (o, s') → I s'
  | 0, s, _ => ⟨rfl, fun o s' h => by cases h⟩
  | k + 1, s, hi => by
    obtain ⟨h1, h2⟩ := h s hi
    simp only [iter, ← h1]
    cases hf : f s with
    | none => exact ⟨rfl, fun o s' h => by cases h⟩
    | some q =>
      obtain ⟨o, s1⟩ := q
      have hi1 := h2 o s1 hf
      simp only [Option.bind_some]
      cases o with
      | nrm => exact iter_sub h k s1 hi1
      | exit i => exact ⟨rfl, fun o s' h => by cases h; exact hi1⟩
      | ret => exact ⟨rfl, fun o s' h => by cases h; exact hi1⟩

theorem exec_sub (hdp : d ≠ p) (k : Nat) : ∀ (c : Ac) (s : St), okA p d1 d m c = true → s.tm p = .d (.int .i64 at_) →
    exec C k c s = exec C k (subA d (.d (.int .i64 (bitsOp .and .i64 at_ m))) c) s ∧ ∀ o s', exec C k c s = some (o, s') → s'.tm p = .d (.int .i64 at_) := by
  intro c
  induction c with
  | skip => intro s _ hp; exact ⟨rfl, fun o s' h => by cases h; exact hp⟩
  | gh l => intro s hk; cases hk
  | keep ts bs => intro s hk; cases hk
  | exit i => intro s _ hp; exact ⟨rfl, fun o s' h => by cases h; exact hp⟩
  | ret => intro s _ hp; exact ⟨rfl, fun o s' h => by cases h; exact hp⟩
  | ops l =>
    intro s hk hp
    obtain ⟨h1, h2⟩ := steps_sub (C := C) hdp l s hk hp
    simp only [exec, subA, ← h1]
    refine ⟨trivial, fun o s' h => ?_⟩
    simp only [Option.bind_eq_some_iff] at h
    obtain ⟨s1, h3, h4⟩ := h
    cases h4
    exact h2 _ h3
  | seq a b iha ihb =>
    intro s hk hp
    simp only [okA, Bool.and_eq_true] at hk
    obtain ⟨h1, h2⟩ := iha s hk.1 hp
    simp only [exec, subA, ← h1]
    cases hf : exec C k a s with
    | none => exact ⟨rfl, fun o s' h => by cases h⟩
    | some q =>
      obtain ⟨o, s1⟩ := q
      have hp1 := h2 o s1 hf
      simp only [Option.bind_some]
      cases o with
      | nrm => exact ihb s1 hk.2 hp1
      | exit i => exact ⟨rfl, fun o s' h => by cases h; exact hp1⟩
      | ret => exact ⟨rfl, fun o s' h => by cases h; exact hp1⟩
  | cond x a b iha ihb =>
    intro s hk hp
    simp only [okA, Bool.and_eq_true] at hk
    simp only [exec, subA]
    cases asB (x.ev s.tm) with
    | none => exact ⟨rfl, fun o s' h => by cases h⟩
    | some t =>
      simp only [Option.bind_some]
      cases t with
      | true => exact iha s hk.1 hp
      | false => exact ihb s hk.2 hp
  | block i c ih =>
    intro s hk hp
    obtain ⟨h1, h2⟩ := ih s hk hp
    simp only [exec, subA, ← h1]
    refine ⟨trivial, fun o s' h => ?_⟩
    simp only [Option.bind_eq_some_iff] at h
    obtain ⟨⟨o1, s1⟩, h3, h4⟩ := h
    have hp1 := h2 _ _ h3
    cases o1 with
    | nrm => cases h4; exact hp1
    | ret => cases h4; exact hp1
    | exit j =>
      simp only at h4
      split at h4 <;> (cases h4; exact hp1)
  | loop c ih =>
    intro s hk hp
    simp only [exec, subA]
    exact iter_sub (I := fun s => s.tm p = .d (.int .i64 at_)) (fun s hs => ih s hk hs) k s hp

/-- The function, with the masked number told. -/
def subF (d : Nat) (v : A) (F : Fn) : Fn := { F with body := subA d v F.body }

theorem run_sub (hdp : d ≠ p) {k : Nat} {F : Fn} {args : List T} {as : List A} {bx : Bx} (hsp : F.sp = false) (hk : okA p d1 d m F.body = true) (ht : takesP (fun _ => none) 0 args = some (as, bx)) (hp : tmOf as 0 p = .d (.int .i64 at_)) :
    run C k F args = run C k (subF d (.d (.int .i64 (bitsOp .and .i64 at_ m))) F) args := by
  have e : ∀ (G : Fn), G.sp = false → run C k G args = run1 C k G args := fun G hG => by unfold run; rw [hG]
  rw [e F hsp, e (subF d _ F) hsp]
  simp only [run1, ht, Option.bind_some, runV, subF]
  rw [← (exec_sub (C := C) hdp k F.body ⟨tmOf as 0, bx⟩ hk hp).1]
  rfl
end Go.Es

