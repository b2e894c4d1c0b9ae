/- EsD: part of an interpreter of the program's code whose answers are the machine's. No condition. -/
import Derived.Test.YteikhdaaofiefaaGreatEsC
import Derived.KernelRfl
import Derived.Laws.BitsLemmas
set_option linter.unusedSimpArgs false
set_option linter.unusedVariables false
namespace Go.Es

/-! ### loops -/
/-- The rounds of a loop, from its head on. -/
def loopH (C : Cs) (ts : List Nat) (bs : List Id) (b : Ac) : Nat → St → Option (Out × St)
  | 0, _ => none
  | k + 1, h => (exec C (k + 1) b h).bind fun p => match p.1 with
    | .nrm => iter (exec C (k + 1) (.seq (.keep ts bs) b)) k p.2
    | o => some (o, p.2)

theorem exec_loop (C : Cs) (k : Nat) (ts : List Nat) (bs : List Id) (b : Ac) (s : St) :
    exec C k (.loop (.seq (.keep ts bs) b)) s = (keepA ts bs s).bind fun h => loopH C ts bs b k h := by
  cases k with
  | zero =>
    simp only [exec, iter, loopH]
    cases keepA ts bs s <;> rfl
  | succ k =>
    simp only [exec, iter, loopH]
    cases keepA ts bs s with
    | none => rfl
    | some h => rfl

/-- Whatever the bound, once it is large enough. -/
def Ev (f : Nat → Option (Out × St)) (p : Out × St) : Prop := ∃ k0, ∀ k, k0 ≤ k → f k = some p

theorem loopH_out {C : Cs} {ts : List Nat} {bs : List Id} {b : Ac} {h : St} {p : Out × St} (hb : Ev (fun k => exec C k b h) p) (hp : p.1 ≠ .nrm) : Ev (fun k => loopH C ts bs b k h) p := by
  obtain ⟨k0, hk⟩ := hb
  refine ⟨k0 + 1, fun k h' => ?_⟩
  cases k with
  | zero => omega
  | succ k =>
    have e := hk (k + 1) (by omega)
    obtain ⟨o, s⟩ := p
    cases o with
    | nrm => exact absurd rfl hp
    | exit i => simp only [loopH, e, Option.bind_some]
    | ret => simp only [loopH, e, Option.bind_some]

theorem loopH_next {C : Cs} {ts : List Nat} {bs : List Id} {b : Ac} {h h' s' : St} {p : Out × St} (hb : Ev (fun k => exec C k b h) (.nrm, s')) (hk : keepA ts bs s' = some h') (hl : Ev (fun k => loopH C ts bs b k h') p) :
    Ev (fun k => loopH C ts bs b k h) p := by
  obtain ⟨k0, hb⟩ := hb
  obtain ⟨k1, hl⟩ := hl
  refine ⟨max k0 k1 + 2, fun k hle => ?_⟩
  match k, hle with
  | k + 2, hle =>
    have h1 : loopH C ts bs b (k + 1) h' = some p := hl _ (by omega)
    have h2 : exec C (k + 1) (.loop (.seq (.keep ts bs) b)) s' = some p := by rw [exec_loop, hk]; exact h1
    simp only [loopH, hb (k + 2) (by omega), Option.bind_some]
    simp only [exec] at h2
    exact iter_mono (fun s p hs => exec_mono (fun f a r h => h) (Nat.le_succ _) hs) (Nat.le_refl _) h2

theorem Ev.of {f : Nat → Option (Out × St)} {p : Out × St} (h : ∀ k, f k = some p) : Ev f p := ⟨0, fun k _ => h k⟩

end Go.Es

namespace Go.Es

/-! ### running code, piece by piece -/
def Runs (C : Cs) (c : Ac) (s : St) (Q : Out × St → Prop) : Prop := ∃ p, Q p ∧ ∃ k0, ∀ k, k0 ≤ k → exec C k c s = some p
def RunAt (C : Cs) (L : List Ao) (i : Nat) (s : St) (R : St → Prop) : Prop := ∃ s', steps C (L.drop i) s = some s' ∧ R s'
def kS (C : Cs) (b : Ac) (Q : Out × St → Prop) (p : Out × St) : Prop := match p.1 with | .nrm => Runs C b p.2 Q | _ => Q p
def kB (id : Nat) (Q : Out × St → Prop) (p : Out × St) : Prop := match p.1 with | .exit i => if i = id then Q (.nrm, p.2) else Q p | _ => Q p

section
variable {C : Cs} {a b c : Ac} {s s' : St} {Q : Out × St → Prop} {R : St → Prop} {id : Nat}

theorem kS_nrm (h : Runs C b s Q) : kS C b Q (.nrm, s) := h
theorem kS_ret (h : Q (.ret, s)) : kS C b Q (.ret, s) := h
theorem kS_exit {i : Nat} (h : Q (.exit i, s)) : kS C b Q (.exit i, s) := h
theorem kB_nrm (h : Q (.nrm, s)) : kB id Q (.nrm, s) := h
theorem kB_ret (h : Q (.ret, s)) : kB id Q (.ret, s) := h
theorem kB_hit (h : Q (.nrm, s)) : kB id Q (.exit id, s) := by simpa only [kB, if_true] using h
theorem kB_pass {i : Nat} (hi : i ≠ id) (h : Q (.exit i, s)) : kB id Q (.exit i, s) := by simpa only [kB, if_neg hi] using h

theorem Runs.seq (h : Runs C a s (kS C b Q)) : Runs C (.seq a b) s Q := by
  obtain ⟨⟨o, s1⟩, hq, k0, h1⟩ := h
  cases o with
  | nrm =>
    obtain ⟨p, hp, k1, h2⟩ := hq
    exact ⟨p, hp, max k0 k1, fun k hk => by simp only [exec, h1 k (by omega), Option.bind_some]; exact h2 k (by omega)⟩
  | exit i => exact ⟨(.exit i, s1), hq, k0, fun k hk => by simp only [exec, h1 k hk, Option.bind_some]⟩
  | ret => exact ⟨(.ret, s1), hq, k0, fun k hk => by simp only [exec, h1 k hk, Option.bind_some]⟩

theorem Runs.ops {l : List Ao} (h : RunAt C l 0 s (fun s' => Q (.nrm, s'))) : Runs C (.ops l) s Q := by
  obtain ⟨s', h1, h2⟩ := h
  exact ⟨_, h2, 0, fun k _ => by simp only [exec]; rw [List.drop_zero] at h1; rw [h1]; rfl⟩

theorem Runs.cond_t {x : O} (hb : asB (x.ev s.tm) = some true) (h : Runs C a s Q) : Runs C (.cond x a b) s Q := by
  obtain ⟨p, hq, k0, h1⟩ := h
  exact ⟨p, hq, k0, fun k hk => by simp only [exec, hb, Option.bind_some, if_true]; exact h1 k hk⟩
theorem Runs.cond_f {x : O} (hb : asB (x.ev s.tm) = some false) (h : Runs C b s Q) : Runs C (.cond x a b) s Q := by
  obtain ⟨p, hq, k0, h1⟩ := h
  exact ⟨p, hq, k0, fun k hk => by simp only [exec, hb, Option.bind_some, Bool.false_eq_true, if_false]; exact h1 k hk⟩

theorem Runs.block (h : Runs C c s (kB id Q)) : Runs C (.block id c) s Q := by
  obtain ⟨⟨o, s1⟩, hq, k0, h1⟩ := h
  cases o with
  | nrm => exact ⟨(.nrm, s1), hq, k0, fun k hk => by simp only [exec, h1 k hk, Option.bind_some]⟩
  | ret => exact ⟨(.ret, s1), hq, k0, fun k hk => by simp only [exec, h1 k hk, Option.bind_some]⟩
  | exit i =>
    by_cases e : i = id
    · simp only [kB, if_pos e] at hq
      exact ⟨(.nrm, s1), hq, k0, fun k hk => by simp only [exec, h1 k hk, Option.bind_some, if_pos e]⟩
    · simp only [kB, if_neg e] at hq
      exact ⟨(.exit i, s1), hq, k0, fun k hk => by simp only [exec, h1 k hk, Option.bind_some, if_neg e]⟩

theorem Runs.skip (h : Q (.nrm, s)) : Runs C .skip s Q := ⟨_, h, 0, fun k _ => rfl⟩
theorem Runs.exit {i : Nat} (h : Q (.exit i, s)) : Runs C (.exit i) s Q := ⟨_, h, 0, fun k _ => rfl⟩
theorem Runs.ret (h : Q (.ret, s)) : Runs C .ret s Q := ⟨_, h, 0, fun k _ => rfl⟩
theorem Runs.keep {ts : List Nat} {bs : List Id} (s' : St) (hk : keepA ts bs s = some s') (h : Q (.nrm, s')) : Runs C (.keep ts bs) s Q := ⟨_, h, 0, fun k _ => by simp only [exec, hk]; rfl⟩
/-- A step of ghosts. -/
theorem Runs.gh {l : List Gs} (s' : St) (hk : ghosts l s = some s') (h : Q (.nrm, s')) : Runs C (.gh l) s Q := ⟨_, h, 0, fun k _ => by simp only [exec, hk]; rfl⟩
theorem Runs.weaken {Q' : Out × St → Prop} (h : Runs C c s Q) (hq : ∀ p, Q p → Q' p) : Runs C c s Q' := by
  obtain ⟨p, h1, h2⟩ := h
  exact ⟨p, hq p h1, h2⟩

/-! ### operations -/
def updW (bx : Bx) : List (Id × Option Box) → Bx
  | [] => bx
  | p :: r => updW (upd bx p.1 p.2) r

structure W where
  v : A
  b : List (Id × Option Box) := []

def adv : List Ao → List W → St → St
  | o :: r, w :: ws, s => adv r ws (put' s o.dst w.v (updW s.bx w.b))
  | _, _, s => s

theorem steps_app (l m : List Ao) (s : St) : steps C (l ++ m) s = (steps C l s).bind fun s' => steps C m s' := by
  induction l generalizing s with
  | nil => rfl
  | cons o l ih =>
    simp only [List.cons_append, steps]
    cases step C o s with
    | none => rfl
    | some s1 => exact ih s1

theorem RunAt.done {L : List Ao} {i : Nat} (hi : L.drop i = []) (h : R s) : RunAt C L i s R := ⟨s, by rw [hi]; rfl, h⟩

theorem RunAt.chunk {L : List Ao} {i : Nat} (n : Nat) (ws : List W) (h : steps C ((L.drop i).take n) s = some (adv ((L.drop i).take n) ws s))
    (k : RunAt C L (i + n) (adv ((L.drop i).take n) ws s) R) : RunAt C L i s R := by
  obtain ⟨s', h1, h2⟩ := k
  refine ⟨s', ?_, h2⟩
  rw [← List.take_append_drop n (L.drop i), steps_app, h, Option.bind_some, List.drop_drop]
  exact h1

def keyO (o : Ao) : Option Nat × K × List Id × Option (List Id) := (o.dst, o.k, o.av, o.al)

theorem sem_key (o : Ao) (xs : List A) (bx : Bx) : sem C o xs bx = sem C ⟨o.dst, o.k, [], none, o.av, o.al⟩ xs bx := by
  obtain ⟨d, k, os, g, av, al⟩ := o
  unfold sem
  rfl

theorem RunAt.cut {L : List Ao} {i : Nat} (d : Option Nat) (k : K) (av : List Id) (al : Option (List Id)) (xs : List A) (v : A) (ws : List (Id × Option Box))
    (hk : (L[i]?).map keyO = some (d, k, av, al)) (hg : ((L[i]?).bind fun o => wanted s o.g) = some true) (hx : (L[i]?).map (fun o => o.xs.map (O.ev s.tm)) = some xs)
    (hs : sem C ⟨d, k, [], none, av, al⟩ xs s.bx = some (v, updW s.bx ws)) (kk : RunAt C L (i + 1) (put' s d v (updW s.bx ws)) R) : RunAt C L i s R := by
  obtain ⟨s', h1, h2⟩ := kk
  refine ⟨s', ?_, h2⟩
  cases ho : L[i]? with
  | none => rw [ho] at hk; cases hk
  | some o =>
    rw [ho] at hk hg hx
    simp only [Option.map_some, Option.some.injEq, keyO, Prod.mk.injEq] at hk
    simp only [Option.map_some, Option.some.injEq] at hx
    simp only [Option.bind_some] at hg
    obtain ⟨rfl, rfl, rfl, rfl⟩ := hk
    obtain ⟨hlt, he⟩ := List.getElem?_eq_some_iff.1 ho
    rw [List.drop_eq_getElem_cons hlt, he]
    simp only [steps, step, hg, Option.bind_some, if_true, hx]
    rw [sem_key, hs]
    exact h1

/-! ### loops -/
inductive Lp (α β : Type) where
  | next (a : α)
  | out (b : β)

def loopN {α β : Type} (f : α → Option (Lp α β)) : Nat → α → Option β
  | 0, _ => none
  | n + 1, x => (f x).bind fun r => match r with
    | .next y => loopN f n y
    | .out b => some b

open Classical in
noncomputable def loopO {α β : Type} (f : α → Option (Lp α β)) (x : α) : Option β :=
  if h : ∃ b n, loopN f n x = some b then some h.choose else none

theorem loopN_mono {α β : Type} {f : α → Option (Lp α β)} : ∀ {n m : Nat} {x : α} {b : β}, n ≤ m → loopN f n x = some b → loopN f m x = some b
  | 0, _, _, _, _, h => by simp [loopN] at h
  | n + 1, 0, _, _, hk, _ => by omega
  | n + 1, m + 1, x, b, hk, h => by
    simp only [loopN, Option.bind_eq_some_iff] at h ⊢
    obtain ⟨r, h1, h2⟩ := h
    refine ⟨r, h1, ?_⟩
    cases r with
    | next y => exact loopN_mono (by omega) h2
    | out b => exact h2

theorem loopO_iff {α β : Type} {f : α → Option (Lp α β)} {x : α} {b : β} : loopO f x = some b ↔ ∃ n, loopN f n x = some b := by
  unfold loopO
  constructor
  · intro h
    split at h
    · rename_i hx
      cases h
      exact hx.choose_spec
    · cases h
  · rintro ⟨n, h⟩
    have hx : ∃ b n, loopN f n x = some b := ⟨b, n, h⟩
    rw [dif_pos hx]
    obtain ⟨m, hm⟩ := hx.choose_spec
    have h1 := loopN_mono (Nat.le_max_left n m) h
    have h2 := loopN_mono (Nat.le_max_right n m) hm
    rw [h1] at h2
    exact congrArg some (Option.some.inj h2).symm

theorem loopO_eq {α β : Type} (f : α → Option (Lp α β)) (x : α) : loopO f x = (f x).bind fun r => match r with | .next y => loopO f y | .out b => some b := by
  cases hx : f x with
  | none =>
    rw [Option.bind_none]
    cases h : loopO f x with
    | none => rfl
    | some b =>
      obtain ⟨n, hn⟩ := loopO_iff.1 h
      cases n with
      | zero => simp [loopN] at hn
      | succ n => simp [loopN, hx] at hn
  | some r =>
    rw [Option.bind_some]
    cases r with
    | out b => exact loopO_iff.2 ⟨1, by simp [loopN, hx]⟩
    | next y =>
      simp only
      cases h : loopO f y with
      | some b =>
        obtain ⟨n, hn⟩ := loopO_iff.1 h
        exact loopO_iff.2 ⟨n + 1, by simp [loopN, hx, hn]⟩
      | none =>
        cases h' : loopO f x with
        | none => rfl
        | some b =>
          obtain ⟨n, hn⟩ := loopO_iff.1 h'
          cases n with
          | zero => simp [loopN] at hn
          | succ n =>
            simp only [loopN, hx, Option.bind_some] at hn
            rw [loopO_iff.2 ⟨n, hn⟩] at h; cases h

/-- The canonical view of a state. -/
def Canon (l : List Gs) (ts : List Nat) (bs : List Id) (s s' : St) : Prop := (ghosts l s).bind (keepA ts bs) = some s'

theorem Canon.nil {ts : List Nat} {bs : List Id} (h : keepA ts bs s = some s') : Canon [] ts bs s s' := h
theorem Canon.cons {ts : List Nat} {bs : List Id} {g : Gs} {l : List Gs} {s1 : St} (h : ghost s g = some s1) (k : Canon l ts bs s1 s') : Canon (g :: l) ts bs s s' := by
  unfold Canon at k ⊢
  simp only [ghosts, h, Option.bind_some]
  exact k

/-! ### short names -/
abbrev o0 (k : K) (xs : List O) : Ao := ⟨none, k, xs, none, [], none⟩
abbrev og (d : Nat) (k : K) (xs : List O) (t : Nat) (b : Bool) : Ao := ⟨some d, k, xs, some (t, b), [], none⟩
abbrev o3 (d : Nat) (k : K) (xs : List O) : Ao := ⟨some d, k, xs, none, [], none⟩
theorem Rc {C : Cs} {s : St} {R : St → Prop} {L : List Ao} {i : Nat} (n : Nat) (ws : List W) (k : RunAt C L (i + n) (adv ((L.drop i).take n) ws s) R)
    (h : steps C ((L.drop i).take n) s = some (adv ((L.drop i).take n) ws s) := by kernel_rfl) : RunAt C L i s R := RunAt.chunk n ws h k
theorem Rd {C : Cs} {s : St} {R : St → Prop} {L : List Ao} {i : Nat} (h : R s) (hi : L.drop i = [] := by kernel_rfl) : RunAt C L i s R := RunAt.done hi h
theorem Rt {C : Cs} {s : St} {R : St → Prop} {L : List Ao} {i : Nat} (d : Option Nat) (k : K) (av : List Id) (al : Option (List Id)) (xs : List A) (v : A) (ws : List (Id × Option Box))
    (hs : sem C ⟨d, k, [], none, av, al⟩ xs s.bx = some (v, updW s.bx ws)) (kk : RunAt C L (i + 1) (put' s d v (updW s.bx ws)) R)
    (hk : (L[i]?).map keyO = some (d, k, av, al) := by kernel_rfl) (hg : ((L[i]?).bind fun o => wanted s o.g) = some true := by kernel_rfl) (hx : (L[i]?).map (fun o => o.xs.map (O.ev s.tm)) = some xs := by kernel_rfl) : RunAt C L i s R :=
  RunAt.cut d k av al xs v ws hk hg hx hs kk
theorem Ct {C : Cs} {s : St} {Q : Out × St → Prop} {a b : Ac} {x : O} (h : Runs C a s Q) (hb : asB (x.ev s.tm) = some true := by kernel_rfl) : Runs C (.cond x a b) s Q := Runs.cond_t hb h
theorem Cf {C : Cs} {s : St} {Q : Out × St → Prop} {a b : Ac} {x : O} (h : Runs C b s Q) (hb : asB (x.ev s.tm) = some false := by kernel_rfl) : Runs C (.cond x a b) s Q := Runs.cond_f hb h
abbrev Sq := @Runs.seq
abbrev Ro := @Runs.ops


theorem Runs.canon {l : List Gs} {ts : List Nat} {bs : List Id} (s' : St) (hk : Canon l ts bs s s') (h : Runs C b s' Q) : Runs C (.seq (.gh l) (.seq (.keep ts bs) b)) s Q := by
  obtain ⟨p, hp, k0, hr⟩ := h
  refine ⟨p, hp, k0, fun k hk' => ?_⟩
  unfold Canon at hk
  cases hg : ghosts l s with
  | none => rw [hg] at hk; cases hk
  | some s1 =>
    rw [hg, Option.bind_some] at hk
    simp only [exec, hg, hk, Option.bind_some]
    exact hr k hk'

/-- A loop's round, and how it goes on. -/
def LQ {α β γ : Type} (l : List Gs) (ts : List Nat) (bs : List Id) (hd : α → γ → St) (PE : β → Out × St → Prop) (r : Lp α β) (p : Out × St) : Prop :=
  match r with
  | .next x => p.1 = .nrm ∧ ∃ g, Canon l ts bs p.2 (hd x g)
  | .out e => p.1 ≠ .nrm ∧ PE e p

/-- The rounds of a loop, from behind its head on. -/
def loopG (C : Cs) (l : List Gs) (ts : List Nat) (bs : List Id) (b : Ac) : Nat → St → Option (Out × St)
  | 0, _ => none
  | k + 1, h => (exec C (k + 1) b h).bind fun p => match p.1 with
    | .nrm => iter (exec C (k + 1) (.seq (.gh l) (.seq (.keep ts bs) b))) k p.2
    | o => some (o, p.2)

theorem iter_canon {l : List Gs} {ts : List Nat} {bs : List Id} (k : Nat) (hk : Canon l ts bs s s') :
    exec C k (.loop (.seq (.gh l) (.seq (.keep ts bs) b))) s = loopG C l ts bs b k s' := by
  unfold Canon at hk
  cases hg : ghosts l s with
  | none => rw [hg] at hk; cases hk
  | some s1 =>
    rw [hg, Option.bind_some] at hk
    cases k with
    | zero => rfl
    | succ k =>
      simp only [exec, iter, loopG, hg, hk, Option.bind_some]
      rfl

theorem Runs.loop {α β γ : Type} {l : List Gs} {ts : List Nat} {bs : List Id} (body : α → Option (Lp α β)) (hd : α → γ → St) (PE : β → Out × St → Prop)
    (hstep : ∀ x g r, body x = some r → Runs C b (hd x g) (LQ l ts bs hd PE r)) {x : α} (g : γ) {e : β} (h : loopO body x = some e) (hk : Canon l ts bs s (hd x g))
    (hQ : ∀ p, PE e p → Q p) : Runs C (.loop (.seq (.gh l) (.seq (.keep ts bs) b))) s Q := by
  obtain ⟨n, hn⟩ := loopO_iff.1 h
  have key : ∀ n x g, loopN body n x = some e → ∃ p, (p.1 ≠ .nrm ∧ PE e p) ∧ Ev (fun k => loopG C l ts bs b k (hd x g)) p := by
    intro n
    induction n with
    | zero => intro x g h; simp [loopN] at h
    | succ n ih =>
      intro x g hx
      simp only [loopN, Option.bind_eq_some_iff] at hx
      obtain ⟨r, h1, h2⟩ := hx
      obtain ⟨⟨o, s1⟩, hq, k0, he⟩ := hstep x g r h1
      cases r with
      | next y =>
        simp only [LQ] at hq
        obtain ⟨rfl, g', hg'⟩ := hq
        obtain ⟨p, hp, k1, hev⟩ := ih y g' h2
        refine ⟨p, hp, max k0 k1 + 2, fun k hle => ?_⟩
        match k, hle with
        | k + 2, hle =>
          have h1 : loopG C l ts bs b (k + 1) (hd y g') = some p := hev _ (by omega)
          have h2 : exec C (k + 1) (.loop (.seq (.gh l) (.seq (.keep ts bs) b))) s1 = some p := by rw [iter_canon _ hg']; exact h1
          simp only [loopG, he (k + 2) (by omega), Option.bind_some]
          simp only [exec] at h2
          exact iter_mono (fun s p hs => exec_mono (fun f a r h => h) (Nat.le_succ _) hs) (Nat.le_refl _) h2
      | out e' =>
        simp only [Option.some.injEq] at h2; subst h2
        obtain ⟨hne, hpe⟩ := hq
        refine ⟨_, ⟨hne, hpe⟩, k0 + 1, fun k hle => ?_⟩
        match k, hle with
        | k + 1, hle =>
          simp only [loopG, he (k + 1) (by omega), Option.bind_some]
  obtain ⟨p, ⟨h1, h2⟩, k0, hev⟩ := key n x g hn
  exact ⟨p, hQ p h2, k0, fun k hk' => by rw [iter_canon _ hk]; exact hev k hk'⟩

/-! ### functions -/
def finF (F : Fn) (pa : List A) (s : St) : Option (T × List T) :=
  (ress s F.rs).bind fun rs => (outs1 (if F.mvp then 0 else F.np) s.bx rs).bind fun o => endV F o pa

def FQ (F : Fn) (pa : List A) (t : T × List T) (p : Out × St) : Prop := (∀ i, p.1 ≠ .exit i) ∧ finF F pa p.2 = some t

theorem FQ.nrm {F : Fn} {pa : List A} {t : T × List T} (h : finF F pa s = some t) : FQ F pa t (.nrm, s) := ⟨(fun _ h => by cases h), h⟩
theorem FQ.ret {F : Fn} {pa : List A} {t : T × List T} (h : finF F pa s = some t) : FQ F pa t (.ret, s) := ⟨(fun _ h => by cases h), h⟩

theorem run_of {F : Fn} {args : List T} {ap : List A} {bx0 : Bx} {t : T × List T} (hsp : F.sp = false) (hl : args.length = F.np) (ht : takesP (fun _ => none) 0 args = some (ap, bx0)) (h : Runs C F.body ⟨tmOf ap 0, bx0⟩ (FQ F ap t)) :
    ∃ k, run C k F args = some t := by
  obtain ⟨⟨o, s1⟩, ⟨hx, hf⟩, k0, he⟩ := h
  refine ⟨k0, ?_⟩
  have hr : run C k0 F args = run1 C k0 F args := by unfold run; rw [hsp]
  rw [hr]
  unfold run1 runV
  rw [if_pos hl, ht, Option.bind_some, he k0 (Nat.le_refl _), Option.bind_some]
  cases o with
  | exit i => exact absurd rfl (hx i)
  | nrm => exact hf
  | ret => exact hf

/-! ### plain operations -/
def idx {α : Type} (l : List α) (i : Int) : Option α := if 0 ≤ i then l[i.toNat]? else none
def setL {α : Type} (l : List α) (i : Int) (y : α) : Option (List α) := if 0 ≤ i ∧ i.toNat < l.length then some (l.set i.toNat y) else none
def grow {α : Type} (bytes : Nat) (l m : List α) : Option (List α) := if (l.length + m.length) * bytes ≤ 2 ^ 40 ∧ l.length + m.length ≤ 2 ^ 40 then some (l ++ m) else none
def catS (a b : List UInt8) : Option (List UInt8) := if a.length + b.length ≤ 2 ^ 40 then some (a ++ b) else none
/-- from lo to hi (rising, in the list) -/
def cutL {α : Type} (l : List α) (lo hi : Int) : Option (List α) := if 0 ≤ lo ∧ lo ≤ hi ∧ hi ≤ (l.length : Int) then some ((l.drop lo.toNat).take (hi.toNat - lo.toNat)) else none
def b2s (l : List Int) : List UInt8 := l.map fun n => UInt8.ofNat n.toNat
def s2b (s : List UInt8) : List Int := s.map fun c => (c.toNat : Int)
/-- noughts behind a list -/
def growZ {α : Type} (bytes : Nat) (z : α) (l : List α) (n : Int) : Option (List α) := if 0 ≤ n ∧ n ≤ 2 ^ 40 ∧ n * bytes ≤ 2 ^ 40 ∧ (l.length + n.toNat) * bytes ≤ 2 ^ 40 ∧ l.length + n.toNat ≤ 2 ^ 40 then some (l ++ List.replicate n.toNat z) else none
/-- as many of ys as there is room for, over l's from off on -/
def cpy {α : Type} (l : List α) (off len : Nat) (ys : List α) : List α := if off + len ≤ l.length then l.take off ++ ys.take (min ys.length len) ++ l.drop (off + min ys.length len) else l
theorem cpy_length {α : Type} (l : List α) (off len : Nat) (ys : List α) : (cpy l off len ys).length = l.length := by
  unfold cpy
  split
  · simp only [List.length_append, List.length_take, List.length_drop]; omega
  · rfl
def mk {α : Type} (bytes : Nat) (z : α) (n : Int) : Option (List α) := if 0 ≤ n ∧ n * bytes ≤ 2 ^ 40 ∧ n ≤ 2 ^ 40 then some (List.replicate n.toNat z) else none

theorem ite_t {β : Type} {b : Bool} {x y : Option β} {r : β} (hb : b = true) (h : (if b = true then x else y) = some r) : x = some r := by rwa [if_pos hb] at h
theorem ite_f {β : Type} {b : Bool} {x y : Option β} {r : β} (hb : b = false) (h : (if b = true then x else y) = some r) : y = some r := by rwa [if_neg (by rw [hb]; decide)] at h
theorem bind_s {α β : Type} {x : Option α} {f : α → Option β} {r : β} (h : x.bind f = some r) : ∃ y, x = some y ∧ f y = some r := Option.bind_eq_some_iff.1 h

theorem idx_some {α : Type} {l : List α} {i : Int} {y : α} (h : idx l i = some y) : 0 ≤ i ∧ l[i.toNat]? = some y := by
  unfold idx at h
  split at h
  · exact ⟨‹_›, h⟩
  · cases h
end
/-! ### short words of the printed texts -/
abbrev A.i (n : Int) : A := .d (.int .i64 n)
abbrev A.y (n : Int) : A := .d (.int .u8 n)
abbrev A.w (n : Int) : A := .d (.int .u16 n)
abbrev A.u (n : Int) : A := .d (.int .u32 n)
abbrev A.b (x : Bool) : A := .d (.bool x)
abbrev T.i (n : Int) : T := .d (.int .i64 n)
abbrev T.y (n : Int) : T := .d (.int .u8 n)
abbrev T.w (n : Int) : T := .d (.int .u16 n)
abbrev T.u (n : Int) : T := .d (.int .u32 n)
abbrev T.b (x : Bool) : T := .d (.bool x)
abbrev O.i (n : Int) : O := .c (.d (.int .i64 n))
abbrev O.y (n : Int) : O := .c (.d (.int .u8 n))
abbrev O.w (n : Int) : O := .c (.d (.int .u16 n))
abbrev O.u (n : Int) : O := .c (.d (.int .u32 n))
abbrev O.b (x : Bool) : O := .c (.d (.bool x))
abbrev vi (n : Int) : W := ⟨.i n, []⟩
abbrev vy (n : Int) : W := ⟨.y n, []⟩
abbrev vw (n : Int) : W := ⟨.w n, []⟩
abbrev vu (n : Int) : W := ⟨.u n, []⟩
abbrev vb (x : Bool) : W := ⟨.b x, []⟩
abbrev vn : W := ⟨.tup [], []⟩
abbrev vp (id : Id) (v o : Nat) : W := ⟨.ptr id v o, []⟩
abbrev mY (l : List Int) : List D := l.map (D.int .u8)
abbrev so (l : List Ao) (c : Ac) : Ac := .seq (.ops l) c
abbrev cd (t : Nat) (a b : Ac) : Ac := .cond (.t t) a b
abbrev om (d n : Nat) : Ao := o3 d .mv [.t n]
abbrev oe (d n t : Nat) : Ao := o3 d (.extract n) [.t t]
theorem Rk {C : Cs} {s : St} {Q : Out × St → Prop} {L : List Ao} {i : Nat} {b : Ac} (h : Runs C b s Q) (hi : L.drop i = [] := by kernel_rfl) : RunAt C L i s (fun s => kS C b Q (.nrm, s)) := Rd (kS_nrm h) hi
theorem sj {α : Type} {a b : α} (h : some a = some b) : a = b := Option.some.inj h
theorem Cz {s s' : St} {ts : List Nat} {bs : List Id} (h : keepA ts bs s = some s' := by kernel_rfl) : Canon [] ts bs s s' := h

/-! ### data that is of a type -/
open Classical in
noncomputable def ofD {α : Type} (f : α → D) (z : D) : Option α := if h : ∃ b, z = f b then some h.choose else none
theorem ofD_eq {α : Type} {f : α → D} {z : D} {b : α} (h : ofD f z = some b) : z = f b := by
  unfold ofD at h
  split at h
  · rename_i q; cases h; exact q.choose_spec
  · cases h
theorem ofD_f {α : Type} {f : α → D} (hi : ∀ a b, f a = f b → a = b) (b : α) : ofD f (f b) = some b := by
  unfold ofD
  have q : ∃ c, f b = f c := ⟨b, rfl⟩
  rw [dif_pos q]
  exact congrArg some (hi _ _ q.choose_spec).symm

end Go.Es

namespace Go.Es
variable {C : Cs} {bx : Bx} {d : Option Nat} {av : List Id} {al : Option (List Id)} {α : Type} {e : α → D} {l l' : List α} {y : α} {k k' : IntKind} {i lo hi : Int}

theorem updW_app (bx : Bx) (a b : List (Id × Option Box)) : updW bx (a ++ b) = updW (updW bx a) b := by
  induction a generalizing bx with
  | nil => rfl
  | cons p r ih => exact ih _

theorem get_map {i : Int} (h : idx l i = some y) : 0 ≤ i ∧ i.toNat < l.length ∧ (l.map e)[i.toNat]? = some (e y) := by
  obtain ⟨h0, h1⟩ := idx_some h
  exact ⟨h0, (List.getElem?_eq_some_iff.1 h1).1, by rw [List.getElem?_map, h1]; rfl⟩

theorem cut_at {n : Nat} (h : idx l i = some y) (hc : ∀ y, (e y).cells.length = n) :
    sem C ⟨d, .iaddrS n, [], none, av, al⟩ [.d (.sl (l.map e)), .d (.int k i)] bx = some (.elt (e y) 0, updW bx []) := by
  obtain ⟨h0, h1, h2⟩ := get_map (e := e) h
  simp only [sem, asI, Option.bind_some, if_pos h0, h2, hc y, if_true, updW]

theorem cut_at1 {n : Nat} (h : idx l i = some y) (hc : (e y).cells.length = n) :
    sem C ⟨d, .iaddrS n, [], none, av, al⟩ [.d (.sl (l.map e)), .d (.int k i)] bx = some (.elt (e y) 0, updW bx []) := by
  obtain ⟨h0, h1, h2⟩ := get_map (e := e) h
  simp only [sem, asI, Option.bind_some, if_pos h0, h2, hc, if_true, updW]
theorem cut_atR {len : Nat} {id : Id} {v n : Nat} (h : idx l i = some y) (hl : len = (List.map e l).length) :
    sem C ⟨d, .iaddrS n, [], none, av, al⟩ [.ref id v 0 len n, .d (.int k i)] bx = some (.eref id v (0 + i.toNat) 0, updW bx []) := by
  subst hl
  obtain ⟨h0, h1, h2⟩ := get_map (e := e) h
  simp only [sem, asI, Option.bind_some, updW]
  rw [if_pos ⟨h0, by rw [List.length_map]; omega, trivial⟩]

theorem cut_loadR {id : Id} {v : Nat} {fz : Bool} {agg : Option Nat} {off : Nat} {z : D} (hb : bx id = some (.arr (l.map e) v fz)) (h : idx l i = some y) (ho : okId av id = true) (hp : partD (e y) agg off = some z) :
    sem C ⟨d, .load agg, [], none, av, al⟩ [.eref id v (0 + i.toNat) off] bx = some (.d z, updW bx []) := by
  obtain ⟨h0, h1, h2⟩ := get_map (e := e) h
  simp only [sem, loadA, ho, if_true, hb, Nat.zero_add, h2, Option.bind_some, hp, updW]

theorem snaps_data : ∀ {as : List A} {ds : List D} {bx : Bx}, allD as = some ds → snaps av bx as = some (ds, bx)
  | [], _, _, h => by cases h; rfl
  | .d x :: r, ds, bx, h => by
    simp only [allD, Option.bind_eq_some_iff] at h
    obtain ⟨l, h1, he⟩ := h
    cases he
    simp only [snaps, snap1, Option.bind_some, snaps_data h1]
  | .mix _ :: _, _, _, h => by cases h
  | .tup _ :: _, _, _, h => by cases h
  | .nilp :: _, _, _, h => by cases h
  | .nils :: _, _, _, h => by cases h
  | .empt :: _, _, _, h => by cases h
  | .ptr .. :: _, _, _, h => by cases h
  | .elt .. :: _, _, _, h => by cases h
  | .ref .. :: _, _, _, h => by cases h
  | .eref .. :: _, _, _, h => by cases h
  | .lref .. :: _, _, _, h => by cases h
  | .fn .. :: _, _, _, h => by cases h
  | .top :: _, _, _, h => by cases h

theorem cut_setR {id : Id} {v off n : Nat} {a : A} {y' : α} {ds : List D} (hb : bx id = some (.arr (l.map e) v false)) (h : idx l i = some y) (ho : (okId av id && alOk al id) = true) (ha : allD a.cells = some ds) (hn : ds.length = n)
    (hd : setD (e y) off ds = some (e y')) :
    sem C ⟨d, .store n, [], none, av, al⟩ [.eref id v (0 + i.toNat) off, a] bx = some (.tup [], updW bx [(id, some (.arr ((l.set i.toNat y').map e) v false))]) := by
  obtain ⟨h0, h1, h2⟩ := get_map (e := e) h
  simp only [sem, storeA, ho, if_true, snaps_data ha, hb, Option.bind_some, hn, and_self, Nat.zero_add, h2, hd, updW, List.map_set]

/-! ### append -/
theorem ap_str (s : List UInt8) : appended av bx true (.d (.str s)) = some ((s2b s).map (D.int .u8), updW bx []) := by
  simp only [appended, if_true, asS, Option.bind_some, s2b, List.map_map, updW]
  rfl
theorem ap_data (l : List α) : appended av bx false (.d (.sl (l.map e))) = some (l.map e, updW bx []) := rfl
theorem ap_nils : appended av bx false .nils = some (List.map e [], updW bx []) := rfl
theorem sub_all (es : List D) : sub es 0 es.length = some es := by simp [sub]
theorem ap_ref {len : Nat} {id : Id} {v n : Nat} {fz : Bool} (hb : bx id = some (.arr (l.map e) v fz)) (ho : okId av id = true) (hl : len = (List.map e l).length) :
    appended av bx false (.ref id v 0 len n) = some (l.map e, updW bx []) := by
  subst hl
  simp only [appended, Bool.false_eq_true, if_false, readSl, ho, if_true, hb, sub_all, Option.bind_some, updW]

theorem szOk_map {n : Nat} (hc : ∀ y, (e y).cells.length = n) (l : List α) : szOk (l.map e) n = true := by
  cases l with
  | nil => rfl
  | cons a r => simp [szOk, hc a]

theorem grow_some {b : Nat} {l m l' : List α} (h : grow b l m = some l') : (l.length + m.length) * b ≤ 2 ^ 40 ∧ l.length + m.length ≤ 2 ^ 40 ∧ l' = l ++ m := by
  unfold grow at h
  split at h
  · cases h; exact ⟨‹_ ∧ _›.1, ‹_ ∧ _›.2, rfl⟩
  · cases h

theorem cut_appN1 {t n b v : Nat} {str : Bool} {x : A} {ys : List α} {ws : List (Id × Option Box)} (hx : appended av bx str x = some (ys.map e, updW bx ws)) (hc : szOk (ys.map e) n = true) (hg : grow b [] ys = some l')
    (hv : nextVer (updW bx ws) [t] = v) :
    sem C ⟨some t, .append n b str, [], none, av, al⟩ [.nils, x] bx = some (.ref [t] v 0 (List.map e l').length n, updW bx (ws ++ [([t], some (.arr (l'.map e) v false))])) := by
  obtain ⟨h1, h2, h3⟩ := grow_some hg
  rw [List.nil_append] at h3
  subst h3
  simp only [List.length_nil, Nat.zero_add] at h1 h2
  have hc' : (List.map e l').length * b ≤ 2 ^ 40 ∧ (List.map e l').length ≤ 2 ^ 40 := by rw [List.length_map]; exact ⟨h1, h2⟩
  simp only [sem, hx, Option.bind_some, hc, if_true, Option.getD_some, hv]
  rw [if_pos hc', updW_app]
  rfl

theorem cut_appN {t n b v : Nat} {str : Bool} {x : A} {ys : List α} {ws : List (Id × Option Box)} (hx : appended av bx str x = some (ys.map e, updW bx ws)) (hc : ∀ y, (e y).cells.length = n) (hg : grow b [] ys = some l')
    (hv : nextVer (updW bx ws) [t] = v) :
    sem C ⟨some t, .append n b str, [], none, av, al⟩ [.nils, x] bx = some (.ref [t] v 0 (List.map e l').length n, updW bx (ws ++ [([t], some (.arr (l'.map e) v false))])) := cut_appN1 hx (szOk_map hc _) hg hv

theorem cut_appR1 {len : Nat} {t n b v : Nat} {id : Id} {fz str : Bool} {x : A} {ys : List α} {ws : List (Id × Option Box)} (hx : appended av bx str x = some (ys.map e, updW bx ws)) (hc : szOk (ys.map e) n = true) (hg : grow b l ys = some l')
    (hb : updW bx ws id = some (.arr (l.map e) v fz)) (ho : (okId av id && alOk al id) = true) (hl : len = (List.map e l).length) :
    sem C ⟨some t, .append n b str, [], none, av, al⟩ [.ref id v 0 len n, x] bx = some (.ref id (v + 1) 0 (List.map e l').length n, updW bx (ws ++ [(id, some (.arr (l'.map e) (v + 1) fz))])) := by
  subst hl
  obtain ⟨h1, h2, rfl⟩ := grow_some hg
  have hc' : True ∧ True ∧ True ∧ True ∧ ((List.map e l).length + (List.map e ys).length) * b ≤ 2 ^ 40 ∧ (List.map e l).length + (List.map e ys).length ≤ 2 ^ 40 :=
    ⟨trivial, trivial, trivial, trivial, by simpa only [List.length_map] using h1, by simpa only [List.length_map] using h2⟩
  simp only [sem, hx, Option.bind_some, hc, if_true, ho, hb, List.map_append, List.length_append]
  rw [if_pos hc', updW_app]
  rfl

theorem cut_appR {len : Nat} {t n b v : Nat} {id : Id} {fz str : Bool} {x : A} {ys : List α} {ws : List (Id × Option Box)} (hx : appended av bx str x = some (ys.map e, updW bx ws)) (hc : ∀ y, (e y).cells.length = n) (hg : grow b l ys = some l')
    (hb : updW bx ws id = some (.arr (l.map e) v fz)) (ho : (okId av id && alOk al id) = true) (hl : len = (List.map e l).length) :
    sem C ⟨some t, .append n b str, [], none, av, al⟩ [.ref id v 0 len n, x] bx = some (.ref id (v + 1) 0 (List.map e l').length n, updW bx (ws ++ [(id, some (.arr (l'.map e) (v + 1) fz))])) := cut_appR1 hx (szOk_map hc _) hg hb ho hl

theorem growZ_some {b : Nat} {z : α} {n : Int} (h : growZ b z l n = some l') : (0 ≤ n ∧ n ≤ 2 ^ 40 ∧ n * b ≤ 2 ^ 40) ∧ (l.length + n.toNat) * b ≤ 2 ^ 40 ∧ l.length + n.toNat ≤ 2 ^ 40 ∧ l' = l ++ List.replicate n.toNat z := by
  unfold growZ at h
  split at h
  · rename_i q; obtain ⟨a, b, c, d, f⟩ := q; cases h; exact ⟨⟨a, b, c⟩, d, f, rfl⟩
  · cases h
theorem cut_apzN {t b v : Nat} {z : α} {zd : D} {c : Int} (hg : growZ b z [] c = some l') (hz : zd = e z) (hv : nextVer bx [t] = v) :
    sem C ⟨some t, .appmk zd b, [], none, av, al⟩ [.nils, .d (.int k c)] bx = some (.ref [t] v 0 (List.map e l').length zd.cells.length, updW bx [([t], some (.arr (l'.map e) v false))]) := by
  subst hz
  obtain ⟨h0, h1, h2, rfl⟩ := growZ_some hg
  simp only [List.length_nil, Nat.zero_add] at h1 h2
  simp only [sem, asI, Option.bind_some, appTo, if_pos h0, List.length_replicate, List.nil_append, List.map_replicate, Option.getD_some, hv, updW]
  rw [if_pos ⟨h1, h2⟩]
theorem cut_apzR {len : Nat} {t b v : Nat} {id : Id} {fz : Bool} {z : α} {zd : D} {c : Int} (hg : growZ b z l c = some l') (hz : zd = e z)
    (hb : bx id = some (.arr (l.map e) v fz)) (ho : (okId av id && alOk al id) = true) (hl : len = (List.map e l).length) :
    sem C ⟨some t, .appmk zd b, [], none, av, al⟩ [.ref id v 0 len zd.cells.length, .d (.int k c)] bx = some (.ref id (v + 1) 0 (List.map e l').length zd.cells.length, updW bx [(id, some (.arr (l'.map e) (v + 1) fz))]) := by
  subst hl hz
  obtain ⟨h0, h1, h2, rfl⟩ := growZ_some hg
  have hc' : True ∧ True ∧ True ∧ True ∧ ((List.map e l).length + c.toNat) * b ≤ 2 ^ 40 ∧ (List.map e l).length + c.toNat ≤ 2 ^ 40 :=
    ⟨trivial, trivial, trivial, trivial, by simpa only [List.length_map] using h1, by simpa only [List.length_map] using h2⟩
  simp only [sem, asI, Option.bind_some, appTo, if_pos h0, List.length_replicate, ho, if_true, hb, List.map_append, List.length_append, List.map_replicate, updW]
  rw [if_pos hc']

/-! ### copy -/
theorem cp_str (s : List UInt8) : copied av bx true (.d (.str s)) = some ((s2b s).map (D.int .u8)) := by
  simp only [copied, if_true, asS, Option.bind_some, s2b, List.map_map]
  rfl
theorem cp_data (l : List α) : copied av bx false (.d (.sl (l.map e))) = some (l.map e) := rfl
theorem cp_ref {len : Nat} {id : Id} {v n : Nat} {fz : Bool} (hb : bx id = some (.arr (l.map e) v fz)) (ho : okId av id = true) (hl : len = (List.map e l).length) :
    copied av bx false (.ref id v 0 len n) = some (l.map e) := by
  subst hl
  simp only [copied, Bool.false_eq_true, if_false, readSl, ho, if_true, hb, sub_all]
theorem cut_copy {len off : Nat} {n v : Nat} {id : Id} {str : Bool} {x : A} {ys : List α} (hx : copied av bx str x = some (ys.map e)) (hc : szOk (ys.map e) n = true)
    (hb : bx id = some (.arr (l.map e) v false)) (ho : (okId av id && alOk al id) = true) (hl : off + len ≤ l.length) :
    sem C ⟨d, .copy n str, [], none, av, al⟩ [.ref id v off len n, x] bx = some (.d (.int .i64 ((min ys.length len : Nat) : Int)), updW bx [(id, some (.arr ((cpy l off len ys).map e) v false))]) := by
  have hl' : off + len ≤ (List.map e l).length := by rw [List.length_map]; exact hl
  simp only [sem, hx, Option.bind_some, hc, ho, Bool.and_self, if_true, hb, goI, List.length_map]
  rw [if_pos ⟨trivial, hl, trivial⟩]
  simp only [cpy, if_pos hl, List.map_append, List.map_take, List.map_drop, updW]

/-! ### lengths, parts -/
theorem cut_len (l : List α) : sem C ⟨d, .lenL, [], none, av, al⟩ [.d (.sl (l.map e))] bx = some (.d (.int .i64 (l.length : Int)), updW bx []) := by
  simp only [sem, goI, List.length_map, updW]
theorem cut_lenR {len : Nat} {id : Id} {v o n : Nat} (l : List α) (hl : len = (List.map e l).length) : sem C ⟨d, .lenL, [], none, av, al⟩ [.ref id v o len n] bx = some (.d (.int .i64 (l.length : Int)), updW bx []) := by
  subst hl
  simp only [sem, goI, List.length_map, updW]
theorem cut_lenS (s : List UInt8) : sem C ⟨d, .lenS, [], none, av, al⟩ [.d (.str s)] bx = some (.d (.int .i64 (s.length : Int)), updW bx []) := rfl

theorem cutL_some {l l' : List α} {lo hi : Int} (h : cutL l lo hi = some l') : 0 ≤ lo ∧ lo ≤ hi ∧ hi ≤ (l.length : Int) ∧ l' = (l.drop lo.toNat).take (hi.toNat - lo.toNat) := by
  unfold cutL at h
  split at h
  · rename_i hc; cases h; exact ⟨hc.1, hc.2.1, hc.2.2, rfl⟩
  · cases h

theorem bound_ok {n : Nat} (h0 : 0 ≤ i) (h1 : i ≤ (n : Int)) : bound (.d (.int k i)) n = some i.toNat := by
  simp only [bound, asI, Option.bind_some, if_pos (⟨h0, h1⟩ : 0 ≤ i ∧ i ≤ (n : Int))]

theorem bnd_tt {n : Nat} (h0 : 0 ≤ lo) (h1 : lo ≤ hi) (h2 : hi ≤ (n : Int)) : bounds n true true false [.d (.int k lo), .d (.int k' hi)] = some (lo.toNat, hi.toNat) := by
  simp only [bounds, bound_ok (k := k') (by omega : 0 ≤ hi) h2, Option.bind_some, bound_ok (k := k) h0 (by omega : lo ≤ ((hi.toNat : Nat) : Int))]
theorem bnd_tf {n : Nat} (h0 : 0 ≤ lo) (h1 : lo ≤ (n : Int)) : bounds n true false false [.d (.int k lo)] = some (lo.toNat, n) := by
  simp only [bounds, bound_ok (k := k) h0 h1, Option.bind_some]
theorem bnd_ft {n : Nat} (h0 : 0 ≤ hi) (h1 : hi ≤ (n : Int)) : bounds n false true false [.d (.int k hi)] = some (0, hi.toNat) := by
  simp only [bounds, bound_ok (k := k) h0 h1, Option.bind_some]

theorem cut_strTT {s s' : List UInt8} (h : cutL s lo hi = some s') : sem C ⟨d, .substr true true, [], none, av, al⟩ [.d (.str s), .d (.int k lo), .d (.int k' hi)] bx = some (.d (.str s'), updW bx []) := by
  obtain ⟨h0, h1, h2, rfl⟩ := cutL_some h
  simp only [sem, asS, Option.bind_some, bnd_tt h0 h1 h2, updW]
theorem cut_strTF {s s' : List UInt8} (h : cutL s lo (s.length : Int) = some s') : sem C ⟨d, .substr true false, [], none, av, al⟩ [.d (.str s), .d (.int k lo)] bx = some (.d (.str s'), updW bx []) := by
  obtain ⟨h0, h1, h2, rfl⟩ := cutL_some h
  simp only [sem, asS, Option.bind_some, bnd_tf h0 h1, updW, Int.toNat_natCast]
theorem cut_strFT {s s' : List UInt8} (h : cutL s 0 hi = some s') : sem C ⟨d, .substr false true, [], none, av, al⟩ [.d (.str s), .d (.int k hi)] bx = some (.d (.str s'), updW bx []) := by
  obtain ⟨h0, h1, h2, rfl⟩ := cutL_some h
  simp only [sem, asS, Option.bind_some, bnd_ft h1 h2, updW, Int.toNat_zero]

theorem cut_slTT {n : Nat} (h : cutL l lo hi = some l') (hc : ∀ y, (e y).cells.length = n) : sem C ⟨d, .subsl n true true false, [], none, av, al⟩ [.d (.sl (l.map e)), .d (.int k lo), .d (.int k' hi)] bx = some (.d (.sl (l'.map e)), updW bx []) := by
  obtain ⟨h0, h1, h2, rfl⟩ := cutL_some h
  simp only [sem, szOk_map hc, if_true, List.length_map, bnd_tt h0 h1 h2, Option.bind_some, updW, List.map_take, List.map_drop]
theorem cut_slTF {n : Nat} (h : cutL l lo (l.length : Int) = some l') (hc : ∀ y, (e y).cells.length = n) : sem C ⟨d, .subsl n true false false, [], none, av, al⟩ [.d (.sl (l.map e)), .d (.int k lo)] bx = some (.d (.sl (l'.map e)), updW bx []) := by
  obtain ⟨h0, h1, h2, rfl⟩ := cutL_some h
  simp only [sem, szOk_map hc, if_true, List.length_map, bnd_tf h0 h1, Option.bind_some, updW, List.map_take, List.map_drop, Int.toNat_natCast]
theorem cut_slFT {n : Nat} (h : cutL l 0 hi = some l') (hc : ∀ y, (e y).cells.length = n) : sem C ⟨d, .subsl n false true false, [], none, av, al⟩ [.d (.sl (l.map e)), .d (.int k hi)] bx = some (.d (.sl (l'.map e)), updW bx []) := by
  obtain ⟨h0, h1, h2, rfl⟩ := cutL_some h
  simp only [sem, szOk_map hc, if_true, List.length_map, bnd_ft h1 h2, Option.bind_some, updW, List.map_take, List.map_drop, Int.toNat_zero]
theorem cut_slFF {n : Nat} (l : List α) (hc : ∀ y, (e y).cells.length = n) : sem C ⟨d, .subsl n false false false, [], none, av, al⟩ [.d (.sl (l.map e))] bx = some (.d (.sl (l.map e)), updW bx []) := by
  simp only [sem, szOk_map hc, if_true, bounds, Option.bind_some, updW, List.drop_zero, Nat.sub_zero, List.take_length]

theorem cut_subTT {len : Nat} {id : Id} {v n : Nat} (h : cutL l lo hi = some l') (hl : len = (List.map e l).length) : sem C ⟨d, .subsl n true true false, [], none, av, al⟩ [.ref id v 0 len n, .d (.int k lo), .d (.int k' hi)] bx = some (.ref id v (0 + lo.toNat) (hi.toNat - lo.toNat) n, updW bx []) := by
  subst hl
  obtain ⟨h0, h1, h2, rfl⟩ := cutL_some h
  simp only [sem, if_true, List.length_map, bnd_tt h0 h1 h2, Option.bind_some, updW]
theorem cut_subTF {len : Nat} {id : Id} {v n : Nat} (h : cutL l lo (l.length : Int) = some l') (hl : len = (List.map e l).length) : sem C ⟨d, .subsl n true false false, [], none, av, al⟩ [.ref id v 0 len n, .d (.int k lo)] bx = some (.ref id v (0 + lo.toNat) ((l.length : Int).toNat - lo.toNat) n, updW bx []) := by
  subst hl
  obtain ⟨h0, h1, h2, rfl⟩ := cutL_some h
  simp only [sem, if_true, List.length_map, bnd_tf h0 h1, Option.bind_some, updW, Int.toNat_natCast]
theorem cut_subFT {len : Nat} {id : Id} {v n : Nat} (h : cutL l 0 hi = some l') (hl : len = (List.map e l).length) : sem C ⟨d, .subsl n false true false, [], none, av, al⟩ [.ref id v 0 len n, .d (.int k hi)] bx = some (.ref id v (0 + (0 : Int).toNat) (hi.toNat - (0 : Int).toNat) n, updW bx []) := by
  subst hl
  obtain ⟨h0, h1, h2, rfl⟩ := cutL_some h
  simp only [sem, if_true, List.length_map, bnd_ft h1 h2, Option.bind_some, updW, Int.toNat_zero]
theorem sub_cut (h : cutL l lo hi = some l') : sub (l.map e) (0 + lo.toNat) (hi.toNat - lo.toNat) = some (l'.map e) := by
  obtain ⟨h0, h1, h2, rfl⟩ := cutL_some h
  have : 0 + lo.toNat + (hi.toNat - lo.toNat) ≤ (l.map e).length := by rw [List.length_map]; omega
  rw [Nat.zero_add] at this
  simp only [sub, Nat.zero_add, if_pos this, List.map_take, List.map_drop]

theorem cp_sub {id : Id} {v n : Nat} {fz : Bool} (h : cutL l lo hi = some l') (hb : bx id = some (.arr (l.map e) v fz)) (ho : okId av id = true) :
    copied av bx false (.ref id v (0 + lo.toNat) (hi.toNat - lo.toNat) n) = some (l'.map e) := by
  simp only [copied, Bool.false_eq_true, if_false, readSl, ho, if_true, hb, sub_cut h]
theorem sub_le (h : cutL l lo hi = some l') : 0 + lo.toNat + (hi.toNat - lo.toNat) ≤ l.length := by
  obtain ⟨h0, h1, h2, rfl⟩ := cutL_some h
  omega

/-! ### strings and bytes -/
theorem cut_ixS {s : List UInt8} {c : UInt8} (h : idx s i = some c) : sem C ⟨d, .indexS, [], none, av, al⟩ [.d (.str s), .d (.int k i)] bx = some (.d (.int .u8 (c.toNat : Int)), updW bx []) := by
  obtain ⟨h0, h1⟩ := idx_some h
  simp only [sem, asS, asI, Option.bind_some, if_pos h0, h1, dByte, updW]
theorem mapM_byte (l : List Int) : (l.map (D.int .u8)).mapM byteD = some (b2s l) := by
  induction l with
  | nil => rfl
  | cons a r ih =>
    simp only [List.map_cons, List.mapM_cons, byteD, ih, b2s]
    rfl
theorem cut_bs (l : List Int) : sem C ⟨d, .bytesStr, [], none, av, al⟩ [.d (.sl (l.map (D.int .u8)))] bx = some (.d (.str (b2s l)), updW bx []) := by
  simp only [sem, readSl, Option.bind_some, mapM_byte, updW]
theorem cut_bsR {len : Nat} {id : Id} {v n : Nat} {fz : Bool} {l : List Int} (hb : bx id = some (.arr (l.map (D.int .u8)) v fz)) (ho : okId av id = true) (hl : len = (List.map (D.int .u8) l).length) :
    sem C ⟨d, .bytesStr, [], none, av, al⟩ [.ref id v 0 len n] bx = some (.d (.str (b2s l)), updW bx []) := by
  subst hl
  simp only [sem, readSl, ho, if_true, hb, sub_all, Option.bind_some, mapM_byte, updW]
theorem cut_sb {t v : Nat} (s : List UInt8) (hv : nextVer bx [t] = v) :
    sem C ⟨some t, .strBytes, [], none, av, al⟩ [.d (.str s)] bx = some (.ref [t] v 0 (List.map (D.int .u8) (s2b s)).length 1, updW bx [([t], some (.arr (List.map (D.int .u8) (s2b s)) v false))]) := by
  subst hv
  simp only [sem, asS, Option.bind_some, s2b, List.map_map, List.length_map, updW, Option.getD_some]
  rfl
theorem cut_cat {a b c : List UInt8} (h : catS a b = some c) : sem C ⟨d, .bin .add, [], none, av, al⟩ [.d (.str a), .d (.str b)] bx = some (.d (.str c), updW bx []) := by
  unfold catS at h
  split at h
  · cases h
    simp only [sem, binD, if_pos ‹a.length + b.length ≤ 2 ^ 40›, Option.bind_some, updW]
  · cases h
theorem cut_mk {t b v : Nat} {z : α} {zd : D} {n : Int} (h : mk b z n = some l) (hz : zd = e z) (hv : nextVer bx [t] = v) :
    sem C ⟨some t, .mkslice zd b, [], none, av, al⟩ [.d (.int k n), .d (.int k' n)] bx = some (.ref [t] v 0 (List.map e l).length zd.cells.length, updW bx [([t], some (.arr (List.map e l) v false))]) := by
  subst hv hz
  unfold mk at h
  split at h
  · cases h
    rename_i hc
    have hc' : True ∧ 0 ≤ n ∧ n * b ≤ 2 ^ 40 ∧ n ≤ 2 ^ 40 := ⟨trivial, hc⟩
    simp only [sem, asI, Option.bind_some, if_pos hc', List.map_replicate, List.length_replicate, updW, Option.getD_some]
  · cases h

/-! ### calls -/
theorem gives_nil : gives av al bx [] = some ([], updW bx []) := rfl
theorem gives_cons {a : A} {as : List A} {t : T} {ts : List T} {ws vs : List (Id × Option Box)} (h : give av al bx a = some (t, updW bx ws)) (h2 : gives av al (updW bx ws) as = some (ts, updW (updW bx ws) vs)) :
    gives av al bx (a :: as) = some (t :: ts, updW bx (ws ++ vs)) := by
  simp only [gives, h, Option.bind_some, h2, updW_app]
theorem give_ref {len : Nat} {id : Id} {v n : Nat} {fz : Bool} (hb : bx id = some (.arr (l.map e) v fz)) (ho : okId av id = true) (hl : len = (List.map e l).length) :
    give av al bx (.ref id v 0 len n) = some (.d (.sl (l.map e)), updW bx [(id, some (.arr (l.map e) v true))]) := by
  subst hl
  simp only [give, give1, snap, snap1, snapRef, ho, if_true, hb, sub_all, Option.bind_some, frz, updW]
theorem give_sub {id : Id} {v n : Nat} {fz : Bool} (h : cutL l lo hi = some l') (hb : bx id = some (.arr (l.map e) v fz)) (ho : okId av id = true) :
    give av al bx (.ref id v (0 + lo.toNat) (hi.toNat - lo.toNat) n) = some (.d (.sl (l'.map e)), updW bx [(id, some (.arr (l.map e) v true))]) := by
  simp only [give, give1, snap, snap1, snapRef, ho, if_true, hb, sub_cut h, Option.bind_some, frz, updW]
theorem give_same {a : A} {t : T} (h : give av al bx a = some (t, bx)) : give av al bx a = some (t, updW bx []) := h

theorem call_of {id : Id} {f : Nat} {args : List A} {ts ts' : List T} {r : T} {v : A} {ws us vs : List (Id × Option Box)} (hp : (apartIds (ptrIds args) && (ptrIds args).all (alOk al)) = true)
    (hg : gives av al bx args = some (ts, updW bx ws)) (hC : C f ts = some (r, ts')) (hb : backs (updW bx ws) args ts' = some (updW bx us)) (ht : take id (updW bx us) r = some (v, updW bx vs))
    (hl : args.map (lendX av bx) = args := by kernel_rfl) (hi : lids args = [] := by kernel_rfl) :
    callA C av al bx id f args = some (v, updW bx vs) := by
  simp only [callA, hl, callB, hi, List.nil_append, hp, Bool.not_true, Bool.false_eq_true, if_false, hg, Option.bind_some, hC, hb, ht]
/-- with arrays that are lent -/
theorem call_ofL {id : Id} {f : Nat} {args : List A} {ts ts' : List T} {r : T} {v : A} {ws us vs : List (Id × Option Box)} (hp : (apartIds (ptrIds args) && (ptrIds args).all (alOk al)) = true)
    (hl : args.map (lendX av bx) = args) (hg : gives (lids args ++ av) al bx args = some (ts, updW bx ws)) (hC : C f ts = some (r, ts')) (hb : backs (updW bx ws) args ts' = some (updW bx us)) (ht : take id (updW bx us) r = some (v, updW bx vs)) :
    callA C av al bx id f args = some (v, updW bx vs) := by
  simp only [callA, hl, callB, hp, Bool.not_true, Bool.false_eq_true, if_false, hg, Option.bind_some, hC, hb, ht]
theorem lendX_of {id : Id} {v len n : Nat} {es : List D} {fz : Bool} (hb : bx id = some (.arr es v fz)) (ho : okId av id = true) (hl : len = es.length) (hn : n ≠ 0) : lendX av bx (.lref id v 0 len n) = .lref id v 0 len n := by
  subst hl
  simp only [lendX, lendX0, ho, wholeB, hb, Bool.true_and, hn, ne_eq, not_false_eq_true, and_self, decide_true, if_true]

theorem cut_call {t f : Nat} {xs : List A} {v : A} {ws : List (Id × Option Box)} (h : callA C av al bx [t] f xs = some (v, updW bx ws)) :
    sem C ⟨some t, .callf f, [], none, av, al⟩ xs bx = some (v, updW bx ws) := by
  have : sem C ⟨some t, .callf f, [], none, av, al⟩ xs bx = callA C av al bx [t] f xs := by cases xs <;> rfl
  rw [this, h]
theorem cc {t f : Nat} {xs : List A} {v : A} {ts ts' : List T} {r : T} {vs : List (Id × Option Box)} (hC : C f ts = some (r, ts')) (hp : (apartIds (ptrIds xs) && (ptrIds xs).all (alOk al)) = true := by kernel_rfl)
    (hg : gives av al bx xs = some (ts, updW bx []) := by kernel_rfl) (hb : backs (updW bx []) xs ts' = some (updW bx []) := by kernel_rfl) (ht : take [t] (updW bx []) r = some (v, updW bx vs) := by kernel_rfl)
    (hl : xs.map (lendX av bx) = xs := by kernel_rfl) (hi : lids xs = [] := by kernel_rfl) :
    sem C ⟨some t, .callf f, [], none, av, al⟩ xs bx = some (v, updW bx vs) := cut_call (call_of hp hg hC hb ht hl hi)
theorem cut_callv {t f : Nat} {caps xs : List A} {v : A} {ws : List (Id × Option Box)} (h : callA C av al bx [t] f (xs ++ caps) = some (v, updW bx ws)) :
    sem C ⟨some t, .callv, [], none, av, al⟩ (.fn f caps :: xs) bx = some (v, updW bx ws) := h

/-! ### freezing -/
theorem Canon.len {s : St} {f : Nat → St} {a b : Nat} {ts : List Nat} {bs : List Id} {l : List Gs} (h : a = b) (k : Canon l ts bs s (f b)) : Canon l ts bs s (f a) := h ▸ k
theorem Canon.same {s s' : St} {ts : List Nat} {bs : List Id} {g : Gs} {l : List Gs} (h : ghost s g = some s) (k : Canon l ts bs s s') : Canon (g :: l) ts bs s s' := Canon.cons h k
theorem Runs.gcons {s s1 : St} {Q : Out × St → Prop} {g : Gs} {r : List Gs} (h : ghost s g = some s1) (k : Runs C (.gh r) s1 Q) : Runs C (.gh (g :: r)) s Q := by
  obtain ⟨p, hp, k0, hk⟩ := k
  refine ⟨p, hp, k0, fun k hk' => ?_⟩
  have := hk k hk'
  simp only [exec, ghosts, h, Option.bind_some] at this ⊢
  exact this
theorem Runs.gsame {s : St} {Q : Out × St → Prop} {g : Gs} {r : List Gs} (h : ghost s g = some s) (k : Runs C (.gh r) s Q) : Runs C (.gh (g :: r)) s Q := Runs.gcons h k
theorem Runs.gnil {s : St} {Q : Out × St → Prop} (h : Q (.nrm, s)) : Runs C (.gh []) s Q := ⟨_, h, 0, fun k _ => rfl⟩

theorem frz_ref {len : Nat} {s : St} {t : Nat} {id : Id} {v n : Nat} {fz : Bool} (ht : s.tm t = .ref id v 0 len n) (hb : s.bx id = some (.arr (l.map e) v fz)) (hl : len = (List.map e l).length) :
    ghost s (.frz t) = some ⟨upd s.tm t (.d (.sl (l.map e))), updW s.bx [(id, some (.arr (l.map e) v true))]⟩ := by
  subst hl
  simp only [ghost, frzA, orSame, ht, snap, snap1, snapRef, okId, List.all_nil, if_true, hb, sub_all, Option.bind_some, frz, updW]
theorem frz_sub {s : St} {t : Nat} {id : Id} {v n : Nat} {fz : Bool} (h : cutL l lo hi = some l') (ht : s.tm t = .ref id v (0 + lo.toNat) (hi.toNat - lo.toNat) n) (hb : s.bx id = some (.arr (l.map e) v fz)) :
    ghost s (.frz t) = some ⟨upd s.tm t (.d (.sl (l'.map e))), updW s.bx [(id, some (.arr (l.map e) v true))]⟩ := by
  simp only [ghost, frzA, orSame, ht, snap, snap1, snapRef, okId, List.all_nil, if_true, hb, sub_cut h, Option.bind_some, frz, updW]
theorem frz_nil {s : St} {t : Nat} (e : α → D) (ht : s.tm t = .nils) : ghost s (.frz t) = some ⟨upd s.tm t (.d (.sl (List.map e []))), updW s.bx []⟩ := by
  simp only [ghost, frzA, orSame, ht, snap, snap1, Option.bind_some, List.map_nil, updW]
theorem frz_mix {s : St} {t : Nat} {cs : List A} {ds : List D} {ws : List (Id × Option Box)} (ht : s.tm t = .mix cs) (hs : snaps [] s.bx cs = some (ds, updW s.bx ws)) :
    ghost s (.frz t) = some ⟨upd s.tm t (.d (.agg ds)), updW s.bx ws⟩ := by
  simp only [ghost, frzA, orSame, ht, snap, hs, Option.bind_some]
theorem own_nil {s : St} {t v n : Nat} {id : Id} (e : α → D) (ht : s.tm t = .nils) (hv : nextVer s.bx id = v) :
    ghost s (.own t id n) = some ⟨upd s.tm t (.ref id v 0 (List.map e []).length n), updW s.bx [(id, some (.arr (List.map e []) v false))]⟩ := by
  subst hv
  simp only [ghost, orSame, ht, ownA, Option.bind_some, List.map_nil, List.length_nil, updW]
theorem snaps_nil : snaps av bx [] = some ([], updW bx []) := rfl
theorem snaps_d {x : D} {r : List A} {ds : List D} {ws : List (Id × Option Box)} (h : snaps av bx r = some (ds, updW bx ws)) : snaps av bx (.d x :: r) = some (x :: ds, updW bx ws) := by
  simp only [snaps, snap1, Option.bind_some, h]
theorem snaps_n {r : List A} {ds : List D} {ws : List (Id × Option Box)} (e : α → D) (h : snaps av bx r = some (ds, updW bx ws)) : snaps av bx (.nils :: r) = some (.sl (List.map e []) :: ds, updW bx ws) := by
  simp only [snaps, snap1, Option.bind_some, h, List.map_nil]
theorem snaps_r {len : Nat} {id : Id} {v n : Nat} {fz : Bool} {r : List A} {ds : List D} {ws : List (Id × Option Box)} (hb : bx id = some (.arr (l.map e) v fz)) (ho : okId av id = true)
    (h : snaps av (updW bx [(id, some (.arr (l.map e) v true))]) r = some (ds, updW (updW bx [(id, some (.arr (l.map e) v true))]) ws)) (hl : len = (List.map e l).length) :
    snaps av bx (.ref id v 0 len n :: r) = some (.sl (l.map e) :: ds, updW bx ((id, some (.arr (l.map e) v true)) :: ws)) := by
  subst hl
  have h' : snaps av (upd bx id (some (.arr (l.map e) v true))) r = some (ds, updW bx ((id, some (.arr (l.map e) v true)) :: ws)) := h
  simp only [snaps, snap1, snapRef, ho, if_true, hb, sub_all, Option.bind_some, frz, h']
theorem frzB_ref {len : Nat} {s : St} {id id' : Id} {j ver v n : Nat} {fz : Bool} {cs cs' : List A} (hb : s.bx id = some (.cells cs ver)) (hj : cs[j]? = some (.ref id' v 0 len n)) (hb' : s.bx id' = some (.arr (l.map e) v fz))
    (hn : id ≠ id') (hc : cs.set j (.d (.sl (l.map e))) = cs') (hl : len = (List.map e l).length) :
    ghost s (.frzB id j) = some ⟨s.tm, updW s.bx [(id', some (.arr (l.map e) v true)), (id, some (.cells cs' ver))]⟩ := by
  subst hl
  have hjl := (List.getElem?_eq_some_iff.1 hj).1
  have hu : upd s.bx id' (some (.arr (l.map e) v true)) id = some (.cells cs ver) := by rw [upd_ne _ _ _ _ hn]; exact hb
  subst hc
  simp only [ghost, cellG, frzA, orSame, hb, hj, Option.bind_some, snap, snap1, snapRef, okId, List.all_nil, if_true, hb', sub_all, frz, hu, A.flat', hjl, and_self, updW]
theorem frzB_nil {s : St} {id : Id} {j ver : Nat} {cs cs' : List A} (e : α → D) (hb : s.bx id = some (.cells cs ver)) (hj : cs[j]? = some .nils) (hc : cs.set j (.d (.sl (List.map e []))) = cs') :
    ghost s (.frzB id j) = some ⟨s.tm, updW s.bx [(id, some (.cells cs' ver))]⟩ := by
  have hjl := (List.getElem?_eq_some_iff.1 hj).1
  subst hc
  simp only [ghost, cellG, frzA, orSame, hb, hj, Option.bind_some, snap, snap1, A.flat', hjl, and_self, if_true, updW, List.map_nil]
theorem ownB_nil {s : St} {id id' : Id} {j ver v n : Nat} {cs cs' : List A} (e : α → D) (hb : s.bx id = some (.cells cs ver)) (hj : cs[j]? = some .nils) (hv : nextVer s.bx id' = v) (hn : id ≠ id')
    (hc : cs.set j (.ref id' v 0 (List.map e []).length n) = cs') :
    ghost s (.ownB id j id' n) = some ⟨s.tm, updW s.bx [(id', some (.arr (List.map e []) v false)), (id, some (.cells cs' ver))]⟩ := by
  have hjl := (List.getElem?_eq_some_iff.1 hj).1
  have hu : upd s.bx id' (some (.arr [] v false)) id = some (.cells cs ver) := by rw [upd_ne _ _ _ _ hn]; exact hb
  subst hc hv
  simp only [ghost, cellG, ownA, orSame, hb, hj, Option.bind_some, hu, A.flat', hjl, and_self, if_true, updW, List.map_nil, List.length_nil]

/-! ### further plain operations -/
theorem Out.ret_ne {s : St} : ∀ i, ((.ret, s) : Out × St).1 ≠ .exit i := fun _ h => by cases h
theorem Fq {s : St} {P : Prop} (h : P := by kernel_rfl) : (∀ i, ((.ret, s) : Out × St).1 ≠ .exit i) ∧ P := ⟨Out.ret_ne, h⟩
theorem Out.nrm_ne {s : St} : ∀ i, ((.nrm, s) : Out × St).1 ≠ .exit i := fun _ h => by cases h

theorem idx_set {l : List α} {i : Int} {y y' : α} (h : idx l i = some y) : idx (List.set l i.toNat y') i = some y' := by
  obtain ⟨h0, h1⟩ := idx_some h
  have := (List.getElem?_eq_some_iff.1 h1).1
  unfold idx
  rw [if_pos h0, List.getElem?_set_self this]

def mnI (x y : Int) : Int := if y < x then y else x
def mxI (x y : Int) : Int := if y > x then y else x
def quoI (k : IntKind) (x y : Int) : Option Int := if y = 0 then none else some (k.wrap (x.tdiv y))
def remI (k : IntKind) (x y : Int) : Option Int := if y = 0 then none else some (x.tmod y)
def shlO (k : IntKind) (x y : Int) : Option Int := if y < 0 then none else some (shlI k x y)
def shrO (k : IntKind) (x y : Int) : Option Int := if y < 0 then none else some (shrI k x y)

theorem cut_quo {x y z : Int} (h : quoI k x y = some z) : sem C ⟨d, .bin .quo, [], none, av, al⟩ [.d (.int k x), .d (.int k y)] bx = some (.d (.int k z), updW bx []) := by
  unfold quoI at h
  split at h
  · cases h
  · cases h
    simp only [sem, binD, if_true, binI, if_neg ‹¬ y = 0›, Option.bind_some, updW]
theorem cut_rem {x y z : Int} (h : remI k x y = some z) : sem C ⟨d, .bin .rem, [], none, av, al⟩ [.d (.int k x), .d (.int k y)] bx = some (.d (.int k z), updW bx []) := by
  unfold remI at h
  split at h
  · cases h
  · cases h
    simp only [sem, binD, if_true, binI, if_neg ‹¬ y = 0›, Option.bind_some, updW]
theorem cut_shl {x y z : Int} (h : shlO k x y = some z) : sem C ⟨d, .bin .shl, [], none, av, al⟩ [.d (.int k x), .d (.int k' y)] bx = some (.d (.int k z), updW bx []) := by
  unfold shlO at h
  split at h
  · cases h
  · cases h
    simp only [sem, binD, if_neg ‹¬ y < 0›, Option.bind_some, updW]
theorem cut_shr {x y z : Int} (h : shrO k x y = some z) : sem C ⟨d, .bin .shr, [], none, av, al⟩ [.d (.int k x), .d (.int k' y)] bx = some (.d (.int k z), updW bx []) := by
  unfold shrO at h
  split at h
  · cases h
  · cases h
    simp only [sem, binD, if_neg ‹¬ y < 0›, Option.bind_some, updW]

theorem cut_bsN : sem C ⟨d, .bytesStr, [], none, av, al⟩ [.nils] bx = some (.d (.str (b2s [])), updW bx []) := rfl
theorem cut_bsSub {id : Id} {v n : Nat} {fz : Bool} {l l' : List Int} (h : cutL l lo hi = some l') (hb : bx id = some (.arr (l.map (D.int .u8)) v fz)) (ho : okId av id = true) :
    sem C ⟨d, .bytesStr, [], none, av, al⟩ [.ref id v (0 + lo.toNat) (hi.toNat - lo.toNat) n] bx = some (.d (.str (b2s l')), updW bx []) := by
  simp only [sem, readSl, ho, if_true, hb, sub_cut h, Option.bind_some, mapM_byte, updW]
theorem cut_lenSub {id : Id} {v n : Nat} (h : cutL l lo hi = some l') : sem C ⟨d, .lenL, [], none, av, al⟩ [.ref id v (0 + lo.toNat) (hi.toNat - lo.toNat) n] bx = some (.d (.int .i64 (l'.length : Int)), updW bx []) := by
  obtain ⟨h0, h1, h2, rfl⟩ := cutL_some h
  have : ((l.drop lo.toNat).take (hi.toNat - lo.toNat)).length = hi.toNat - lo.toNat := by
    rw [List.length_take, List.length_drop]; omega
  simp only [sem, goI, this, updW]
theorem ap_sub {id : Id} {v n : Nat} {fz : Bool} (h : cutL l lo hi = some l') (hb : bx id = some (.arr (l.map e) v fz)) (ho : okId av id = true) :
    appended av bx false (.ref id v (0 + lo.toNat) (hi.toNat - lo.toNat) n) = some (l'.map e, updW bx []) := by
  simp only [appended, Bool.false_eq_true, if_false, readSl, ho, if_true, hb, sub_cut h, Option.bind_some, updW]

/-! ### own arrays handed over, and handed out -/
theorem gcs_nil : giveCells av al bx [] = some ([], updW bx []) := rfl
theorem gcs_d {x : D} {r : List A} {ts : List T} {ws : List (Id × Option Box)} (h : giveCells av al bx r = some (ts, updW bx ws)) : giveCells av al bx (.d x :: r) = some (.d x :: ts, updW bx ws) := by
  simp only [giveCells, giveCell, Option.bind_some, h]
theorem gcs_own {len : Nat} {id : Id} {v n : Nat} {fz : Bool} {es : List D} {r : List A} {ts : List T} {ws : List (Id × Option Box)} (hb : bx id = some (.arr es v fz)) (ho : okId av id = true) (ha : alOk al id = true) (hl : len = es.length)
    (h : giveCells av al (updW bx [(id, some (.arr [] (v + 1) false))]) r = some (ts, updW (updW bx [(id, some (.arr [] (v + 1) false))]) ws))
    (h0 : n ≠ 0 := by decide) : giveCells av al bx (.ref id v 0 len n :: r) = some (.arr fz n es :: ts, updW bx ((id, some (.arr [] (v + 1) false)) :: ws)) := by
  subst hl
  have h' : giveCells av al (husk bx id v) r = some (ts, updW bx ((id, some (.arr [] (v + 1) false)) :: ws)) := h
  rw [giveCells, giveCell]
  simp only [ho, ha, hb, if_true, ne_eq, h0, not_false_eq_true, and_self, Option.bind_some, h']
theorem give_ptr {id : Id} {v : Nat} {cs : List A} {ts : List T} {ws : List (Id × Option Box)} (hb : bx id = some (.cells cs v)) (ho : okId av id = true) (h : giveCells av al bx cs = some (ts, updW bx ws)) :
    give av al bx (.ptr id v 0) = some (.ptr ts, updW bx ws) := by
  simp only [give, give1, ho, hb, if_true, h, Option.bind_some]
theorem snaps_lids : ∀ {cs : List A} {p : List D × Bx} {bx : Bx}, snaps av bx cs = some p → lids0 cs = []
  | [], _, _, _ => rfl
  | a :: r, p, bx, h => by
    simp only [snaps, Option.bind_eq_some_iff] at h
    obtain ⟨q, h1, q2, h2, _⟩ := h
    have ih := snaps_lids h2
    cases a with
    | lref => simp [snap1] at h1
    | _ => exact ih
theorem give_mix {cs : List A} {ds : List D} {ws : List (Id × Option Box)} (h : snaps av bx cs = some (ds, updW bx ws)) : give av al bx (.mix cs) = some (.d (.agg ds), updW bx ws) := by
  have e := snaps_lids h
  simp only [give, give1, snap, h, Option.bind_some, e, List.isEmpty_nil, if_true]
variable {np : Nat}
theorem outs_nil : outs1 np bx [] = some ([], updW bx []) := rfl
theorem outs_d {x : D} {r : List A} {ts : List T} {ws : List (Id × Option Box)} (h : outs1 np bx r = some (ts, updW bx ws)) : outs1 np bx (.d x :: r) = some (.d x :: ts, updW bx ws) := by
  simp only [outs1, out1, outCell, giveCell, Option.bind_some, h]
theorem outs_own {len : Nat} {id : Id} {v n : Nat} {fz : Bool} {es : List D} {r : List A} {ts : List T} {ws : List (Id × Option Box)} (hb : bx id = some (.arr es v fz)) (hn : np ≤ id.getLastD 0) (hl : len = es.length)
    (h : outs1 np (updW bx [(id, some (.arr [] (v + 1) false))]) r = some (ts, updW (updW bx [(id, some (.arr [] (v + 1) false))]) ws))
    (h0 : n ≠ 0 := by decide) : outs1 np bx (.ref id v 0 len n :: r) = some (.arr fz n es :: ts, updW bx ((id, some (.arr [] (v + 1) false)) :: ws)) := by
  subst hl
  have h' : outs1 np (husk bx id v) r = some (ts, updW bx ((id, some (.arr [] (v + 1) false)) :: ws)) := h
  simp only [outs1, out1, outCell, hb, hn, if_true, ne_eq, h0, not_false_eq_true, and_self, Option.bind_some, h']
theorem ocs_nil : outCells np bx [] = some ([], updW bx []) := rfl
theorem ocs_d {x : D} {r : List A} {ts : List T} {ws : List (Id × Option Box)} (h : outCells np bx r = some (ts, updW bx ws)) : outCells np bx (.d x :: r) = some (.d x :: ts, updW bx ws) := by
  simp only [outCells, outCell, giveCell, Option.bind_some, h]
theorem ocs_own {len : Nat} {id : Id} {v n : Nat} {fz : Bool} {es : List D} {r : List A} {ts : List T} {ws : List (Id × Option Box)} (hb : bx id = some (.arr es v fz)) (hn : np ≤ id.getLastD 0) (hl : len = es.length)
    (h : outCells np (updW bx [(id, some (.arr [] (v + 1) false))]) r = some (ts, updW (updW bx [(id, some (.arr [] (v + 1) false))]) ws))
    (h0 : n ≠ 0 := by decide) : outCells np bx (.ref id v 0 len n :: r) = some (.arr fz n es :: ts, updW bx ((id, some (.arr [] (v + 1) false)) :: ws)) := by
  subst hl
  have h' : outCells np (husk bx id v) r = some (ts, updW bx ((id, some (.arr [] (v + 1) false)) :: ws)) := h
  simp only [outCells, outCell, hb, hn, if_true, ne_eq, h0, not_false_eq_true, and_self, Option.bind_some, h']
theorem outs_mix {cs r : List A} {us ts : List T} {ws vs : List (Id × Option Box)} (hg : outCells np bx cs = some (us, updW bx ws)) (h : outs1 np (updW bx ws) r = some (ts, updW (updW bx ws) vs)) :
    outs1 np bx (.mix cs :: r) = some (.mix us :: ts, updW bx (ws ++ vs)) := by
  simp only [outs1, out1, hg, Option.bind_some, h, updW_app]
theorem outs_ptr {id : Id} {v : Nat} {cs : List A} {ts us : List T} {r : List A} {ws vs : List (Id × Option Box)} (hb : bx id = some (.cells cs v)) (hn : np ≤ id.getLastD 0) (hg : giveCells [] none bx cs = some (us, updW bx ws))
    (h : outs1 np (updW bx (ws ++ [(id, some (.arr [] (v + 1) false))])) r = some (ts, updW (updW bx (ws ++ [(id, some (.arr [] (v + 1) false))])) vs)) :
    outs1 np bx (.ptr id v 0 :: r) = some (.ptr us :: ts, updW bx ((ws ++ [(id, some (.arr [] (v + 1) false))]) ++ vs)) := by
  have h' : outs1 np (husk (updW bx ws) id v) r = some (ts, updW bx ((ws ++ [(id, some (.arr [] (v + 1) false))]) ++ vs)) := by
    rw [updW_app, ← h, updW_app]; rfl
  simp only [outs1, out1, hb, if_pos hn, if_true, hg, Option.bind_some, h']
theorem fin_of {F : Fn} {pa : List A} {s : St} {rs : List A} {os ps : List T} {ws vs : List (Id × Option Box)} (h1 : ress s F.rs = some rs) (hp : (apartIds (ptrIds pa) && inB.go F.pb pa) = true)
    (h2 : outs1 F.np s.bx rs = some (os, updW s.bx ws)) (h3 : gives [] none (updW s.bx ws) pa = some (ps, updW (updW s.bx ws) vs))
    (hm : F.mvp = false := by kernel_rfl) (hl : pa.map (lendP (updW s.bx ws)) = pa := by kernel_rfl) (hi : lids pa = [] := by kernel_rfl) : finF F pa s = some (one os, ps) := by
  simp only [finF, endV, h1, hm, Bool.false_eq_true, if_false, h2, Option.bind_some, hl, hi, hp, Bool.not_true, h3]

/-! ### arrays that are lent -/
theorem lendP_of {b : Bx} {id : Id} {v len n : Nat} {es : List D} {fz : Bool} (hb : b id = some (.arr es v fz)) (hl : len = es.length) (hn : n ≠ 0 := by decide) : lendP b (.ref id v 0 len n) = .lref id v 0 len n := by
  subst hl
  simp only [lendP, wholeB, hb, hn, ne_eq, not_false_eq_true, and_self, decide_true, if_true]
theorem map_nil_ {f : A → A} : [].map f = ([] : List A) := rfl
theorem map_cons_ {f : A → A} {a a' : A} {r r' : List A} (h : f a = a') (k : r.map f = r') : (a :: r).map f = a' :: r' := by rw [List.map_cons, h, k]
theorem give_lref {id : Id} {v len n : Nat} {es : List D} {fz : Bool} (hb : bx id = some (.arr es v fz)) (hl : len = es.length) (ha : alOk al id = true) (hn : n ≠ 0 := by decide) :
    give av al bx (.lref id v 0 len n) = some (.arr fz n es, updW bx []) := by
  subst hl
  simp only [give, give1, ha, if_true, hb, ne_eq, hn, not_false_eq_true, and_self, updW]
theorem backs_nil_ : backs bx [] [] = some (updW bx []) := rfl
theorem backs_cons_ {a : A} {t : T} {as : List A} {ts : List T} {ws vs : List (Id × Option Box)} (h : back bx a t = some (updW bx ws)) (k : backs (updW bx ws) as ts = some (updW (updW bx ws) vs)) : backs bx (a :: as) (t :: ts) = some (updW bx (ws ++ vs)) := by
  simp only [backs, h, Option.bind_some, k, updW_app]
theorem back_lref {id : Id} {v len n : Nat} {es0 es : List D} {f0 : Bool} (hb : bx id = some (.arr es0 v f0)) (hl : es.length = es0.length) : back bx (.lref id v 0 len n) (.arr false n es) = some (updW bx [(id, some (.arr es v false))]) := by
  simp only [back, back1, backL, hb, hl, true_and, and_self, true_or, if_true, updW]
theorem fin_ofL {F : Fn} {pa pb' : List A} {s : St} {rs : List A} {os ps : List T} {ws vs : List (Id × Option Box)} (h1 : ress s F.rs = some rs) (hl : pa.map (lendP (updW s.bx ws)) = pb') (hp : (apartIds (ptrIds pb') && inB.go F.pb pa) = true)
    (h2 : outs1 F.np s.bx rs = some (os, updW s.bx ws)) (h3 : gives (lids pb') none (updW s.bx ws) pb' = some (ps, updW (updW s.bx ws) vs))
    (hm : F.mvp = false := by kernel_rfl) : finF F pa s = some (one os, ps) := by
  simp only [finF, endV, h1, hm, Bool.false_eq_true, if_false, h2, Option.bind_some, hl, hp, Bool.not_true, h3]

/-! ### xs[i:j:k] -/
def cut3 {α : Type} (l : List α) (lo hi mx : Int) : Option (List α) := if 0 ≤ lo ∧ lo ≤ hi ∧ hi ≤ mx ∧ mx ≤ (l.length : Int) then some ((l.drop lo.toNat).take (hi.toNat - lo.toNat)) else none
theorem cut3_some {l l' : List α} {lo hi mx : Int} (h : cut3 l lo hi mx = some l') : 0 ≤ lo ∧ lo ≤ hi ∧ hi ≤ mx ∧ mx ≤ (l.length : Int) ∧ l' = (l.drop lo.toNat).take (hi.toNat - lo.toNat) := by
  unfold cut3 at h
  split at h
  · rename_i hc; cases h; exact ⟨hc.1, hc.2.1, hc.2.2.1, hc.2.2.2, rfl⟩
  · cases h
theorem cut_slTTT {n : Nat} {mx : Int} {k'' : IntKind} (h : cut3 l lo hi mx = some l') (hc : ∀ y, (e y).cells.length = n) : sem C ⟨d, .subsl n true true true, [], none, av, al⟩ [.d (.sl (l.map e)), .d (.int k lo), .d (.int k' hi), .d (.int k'' mx)] bx = some (.d (.sl (l'.map e)), updW bx []) := by
  obtain ⟨h0, h1, h2, h3, rfl⟩ := cut3_some h
  simp only [sem, szOk_map hc, if_true, List.length_map, bounds, bound_ok (k := k'') (by omega : 0 ≤ mx) h3, Option.bind_some, bound_ok (k := k') (by omega : 0 ≤ hi) (by omega : hi ≤ ((mx.toNat : Nat) : Int)),
    bound_ok (k := k) h0 (by omega : lo ≤ ((hi.toNat : Nat) : Int)), updW, List.map_take, List.map_drop]
theorem cut_slFTT {n : Nat} {mx : Int} {k'' : IntKind} (h : cut3 l 0 hi mx = some l') (hc : ∀ y, (e y).cells.length = n) : sem C ⟨d, .subsl n false true true, [], none, av, al⟩ [.d (.sl (l.map e)), .d (.int k' hi), .d (.int k'' mx)] bx = some (.d (.sl (l'.map e)), updW bx []) := by
  obtain ⟨h0, h1, h2, h3, rfl⟩ := cut3_some h
  simp only [sem, szOk_map hc, if_true, List.length_map, bounds, bound_ok (k := k'') (by omega : 0 ≤ mx) h3, Option.bind_some, bound_ok (k := k') (by omega : 0 ≤ hi) (by omega : hi ≤ ((mx.toNat : Nat) : Int)), updW, List.map_take, List.map_drop, Int.toNat_zero]

/-! ### slices held against nil -/
theorem ap_empt : appended av bx false .empt = some (List.map e [], updW bx []) := rfl
theorem run_of_cons {F : Fn} {x : D} {xs : List D} {ap : List A} {bx0 : Bx} {t : T × List T} (hl : 1 = F.np) (ht : takesP (fun _ => none) 0 [.d (.sl (x :: xs))] = some (ap, bx0)) (h : Runs C F.body ⟨tmOf ap 0, bx0⟩ (FQ F ap t)) :
    ∃ k, run C k F [.d (.sl (x :: xs))] = some t := by
  obtain ⟨⟨o, s1⟩, ⟨hx, hf⟩, k0, he⟩ := h
  refine ⟨k0, ?_⟩
  have hr : run C k0 F [.d (.sl (x :: xs))] = run1 C k0 F [.d (.sl (x :: xs))] := by
    unfold run
    cases F.sp <;> rfl
  rw [hr]
  unfold run1 runV
  rw [if_pos (show ([.d (.sl (x :: xs))] : List T).length = F.np from hl), ht, Option.bind_some, he k0 (Nat.le_refl _), Option.bind_some]
  cases o with
  | exit i => exact absurd rfl (hx i)
  | nrm => exact hf
  | ret => exact hf
theorem runV_of {F : Fn} {tv pa : List A} {bx0 : Bx} {t : T × List T} (h : Runs C F.body ⟨tmOf tv 0, bx0⟩ (FQ F pa t)) : ∃ k0, ∀ k, k0 ≤ k → runV C k F tv pa bx0 = some t := by
  obtain ⟨⟨o, s1⟩, ⟨hx, hf⟩, k0, he⟩ := h
  refine ⟨k0, fun k hk => ?_⟩
  unfold runV
  rw [he k hk, Option.bind_some]
  cases o with
  | exit i => exact absurd rfl (hx i)
  | nrm => exact hf
  | ret => exact hf
theorem run_of_empty {F : Fn} {n : Nat} (hsp : F.sp = true) (hl : F.np = 1) (h1 : Runs C F.body ⟨tmOf [.nils] 0, fun _ => none⟩ (FQ F [.d (.sl [])] (.arr false n [], [.d (.sl [])])))
    (h2 : Runs C F.body ⟨tmOf [.empt] 0, fun _ => none⟩ (FQ F [.d (.sl [])] (.arr false n [], [.d (.sl [])]))) : ∃ k, run C k F [.d (.sl [])] = some (.arr false n [], [.d (.sl [])]) := by
  obtain ⟨k1, h1⟩ := runV_of h1
  obtain ⟨k2, h2⟩ := runV_of h2
  refine ⟨max k1 k2, ?_⟩
  unfold run
  rw [hsp]
  simp only [run0, if_pos hl, h1 _ (Nat.le_max_left k1 k2), h2 _ (Nat.le_max_right k1 k2), emptyRes, Option.bind_some, true_or, if_true]

/-! ### literals of values that hold arrays -/
theorem snap_same {a : A} {x : D} (h : snap av bx a = some (x, bx)) : snap av bx a = some (x, updW bx []) := h
theorem snap_mix {cs : List A} {ds : List D} {ws : List (Id × Option Box)} (h : snaps av bx cs = some (ds, updW bx ws)) : snap av bx (.mix cs) = some (.agg ds, updW bx ws) := by
  simp only [snap, h, Option.bind_some]
theorem snap_ref {len : Nat} {id : Id} {v n : Nat} {fz : Bool} (hb : bx id = some (.arr (l.map e) v fz)) (ho : okId av id = true) (hl : len = (List.map e l).length) :
    snap av bx (.ref id v 0 len n) = some (.sl (l.map e), updW bx [(id, some (.arr (l.map e) v true))]) := by
  subst hl
  simp only [snap, snap1, snapRef, ho, if_true, hb, sub_all, Option.bind_some, frz, updW]
theorem snapsM_nil : snapsM av bx [] = some ([], updW bx []) := rfl
theorem snapsM_cons {a : A} {r : List A} {x : D} {ds : List D} {ws vs : List (Id × Option Box)} (h : snap av bx a = some (x, updW bx ws)) (k : snapsM av (updW bx ws) r = some (ds, updW (updW bx ws) vs)) :
    snapsM av bx (a :: r) = some (x :: ds, updW bx (ws ++ vs)) := by
  simp only [snapsM, h, Option.bind_some, k, updW_app]
theorem cut_bslice {t v n : Nat} {z : D} {at_ : List Nat} {xs : List A} {ds : List D} {ws : List (Id × Option Box)} (h : snapsM av bx xs = some (ds, updW bx ws)) (hf : fillD z.cells.length at_ ds (List.replicate n z) = some (List.map e l))
    (hn : z.cells.length = z.cells.length) (hv : nextVer (updW bx ws) [t] = v) (hsz : z.cells.length = z.cells.length) :
    sem C ⟨some t, .bslice z n at_, [], none, av, al⟩ xs bx = some (.ref [t] v 0 (List.map e l).length z.cells.length, updW bx (ws ++ [([t], some (.arr (List.map e l) v false))])) := by
  subst hv
  have e1 : sem C ⟨some t, .bslice z n at_, [], none, av, al⟩ xs bx = (snapsM av bx xs).bind fun p => (fillD z.cells.length at_ p.1 (List.replicate n z)).bind fun es =>
      some (.ref [t] (nextVer p.2 [t]) 0 es.length z.cells.length, upd p.2 [t] (some (.arr es (nextVer p.2 [t]) false))) := by cases xs <;> rfl
  rw [e1, h, Option.bind_some, hf, Option.bind_some, updW_app]
  rfl

/-! ### arrays with other names -/
theorem mvT_ref {s : St} {t len n v w : Nat} {i id' : Id} {es : List D} {fz : Bool} (ht : s.tm t = .ref i v 0 len n) (hb : s.bx i = some (.arr es v fz)) (hne : i ≠ id') (hw : nextVer s.bx id' = w) :
    ghost s (.mvT t id') = some ⟨upd s.tm t (.ref id' w 0 len n), updW s.bx [(i, some (.arr [] (v + 1) false)), (id', some (.arr es w fz))]⟩ := by
  subst hw
  simp only [ghost, orSame, ht, mvA, if_neg hne, hb, if_true, Option.bind_some, updW]
theorem mvB_ref {s : St} {len n v w j ver : Nat} {i id id' : Id} {es : List D} {fz : Bool} {cs cs' : List A} (hb : s.bx id = some (.cells cs ver)) (hj : cs[j]? = some (.ref i v 0 len n)) (hi : s.bx i = some (.arr es v fz)) (hne : i ≠ id')
    (hn1 : id ≠ i) (hn2 : id ≠ id') (hw : nextVer s.bx id' = w) (hc : cs.set j (.ref id' w 0 len n) = cs') :
    ghost s (.mvB id j id') = some ⟨s.tm, updW s.bx [(i, some (.arr [] (v + 1) false)), (id', some (.arr es w fz)), (id, some (.cells cs' ver))]⟩ := by
  have hjl := (List.getElem?_eq_some_iff.1 hj).1
  subst hw hc
  have hu : upd (upd s.bx i (some (.arr [] (v + 1) false))) id' (some (.arr es (nextVer s.bx id') fz)) id = some (.cells cs ver) := by
    rw [upd_ne _ _ _ _ hn2, upd_ne _ _ _ _ hn1]; exact hb
  simp only [ghost, cellG, orSame, hb, hj, Option.bind_some, mvA, if_neg hne, hi, if_true, hu, A.flat', hjl, and_self, updW]
end Go.Es

namespace Go.Es
variable {C : Cs} {bx : Bx} {d : Option Nat} {av : List Id} {al : Option (List Id)} {α : Type} {e : α → D} {k : IntKind}

/-! ### small arrays -/
theorem idx_get {l : List α} {i : Int} {y : α} (h : idx l i = some y) : 0 ≤ i ∧ i.toNat < l.length ∧ l[i.toNat]? = some y := by
  obtain ⟨h0, h1⟩ := idx_some h
  exact ⟨h0, (List.getElem?_eq_some_iff.1 h1).1, h1⟩
/-- an element of an array of single cells, by its number -/
theorem cut_ixA {n : Nat} {l : List α} {i : Int} {y : α} (h : idx l i = some y) (hn : l.length = n) :
    sem C ⟨d, .indexA n 1 none, [], none, av, al⟩ [.d (.agg (l.map e)), .d (.int k i)] bx = some (.d (e y), updW bx []) := by
  obtain ⟨h0, h1, h2⟩ := idx_get h
  simp only [sem, asI, Option.bind_some]
  rw [if_pos ⟨h0, by omega⟩]
  simp only [aggC, Option.bind_some, partA, Nat.mul_one, List.getElem?_map, h2, Option.map_some, updW]
theorem cut_iaA {n s o v : Nat} {id : Id} {l : List α} {i : Int} {y : α} (h : idx l i = some y) (hn : l.length = n) :
    sem C ⟨d, .iaddrA n s, [], none, av, al⟩ [.ptr id v o, .d (.int k i)] bx = some (.ptr id v (o + i.toNat * s), updW bx []) := by
  obtain ⟨h0, h1, h2⟩ := idx_get h
  simp only [sem, asI, Option.bind_some, updW]
  rw [if_pos ⟨h0, by omega⟩]
theorem cut_iaE {n s o : Nat} {x : D} {l : List α} {i : Int} {y : α} (h : idx l i = some y) (hn : l.length = n) :
    sem C ⟨d, .iaddrA n s, [], none, av, al⟩ [.elt x o, .d (.int k i)] bx = some (.elt x (o + i.toNat * s), updW bx []) := by
  obtain ⟨h0, h1, h2⟩ := idx_get h
  simp only [sem, asI, Option.bind_some, updW]
  rw [if_pos ⟨h0, by omega⟩]
theorem cut_ldE {l : List α} {i : Int} {y : α} (h : idx l i = some y) :
    sem C ⟨d, .load none, [], none, av, al⟩ [.elt (.agg (l.map e)) (0 + i.toNat * 1)] bx = some (.d (e y), updW bx []) := by
  obtain ⟨h0, h1, h2⟩ := idx_get h
  simp only [sem, loadA, partD, D.cells, Nat.zero_add, Nat.mul_one, List.getElem?_map, h2, Option.map_some, Option.bind_some, updW]
theorem cut_ldA {v : Nat} {id : Id} {l : List α} {i : Int} {y : α} (h : idx l i = some y) (hb : bx id = some (.cells (l.map fun y => .d (e y)) v)) (ho : okId av id = true) :
    sem C ⟨d, .load none, [], none, av, al⟩ [.ptr id v (0 + i.toNat * 1)] bx = some (.d (e y), updW bx []) := by
  obtain ⟨h0, h1, h2⟩ := idx_get h
  simp only [sem, loadA, ho, if_true, hb, Nat.zero_add, Nat.mul_one, List.getElem?_map, h2, Option.map_some, Option.bind_some, updW]
theorem cut_stA {v : Nat} {id : Id} {l l' : List α} {i : Int} {y y' : α} (h : idx l i = some y) (hb : bx id = some (.cells (l.map fun y => .d (e y)) v)) (ho : (okId av id && alOk al id) = true) (hs : l.set i.toNat y' = l')
    (hc : (e y').flat = true) :
    sem C ⟨d, .store 1, [], none, av, al⟩ [.ptr id v (0 + i.toNat * 1), .d (e y')] bx = some (.tup [], updW bx [(id, some (.cells (l'.map fun y => .d (e y)) v))]) := by
  obtain ⟨h0, h1, h2⟩ := idx_get h
  have hcell : (A.d (e y')).cells = [.d (e y')] := by
    revert hc; cases e y' <;> intro hc <;> first | rfl | cases hc
  have hp : put (l.map fun y => A.d (e y)) (0 + i.toNat * 1) [A.d (e y')] = some (l'.map fun y => A.d (e y)) := by
    subst hs
    have : i.toNat + 1 ≤ (l.map fun y => A.d (e y)).length := by rw [List.length_map]; omega
    simp only [put, List.length_singleton, if_pos this, Nat.zero_add, Nat.mul_one, Option.some.injEq, List.map_set]
    rw [List.set_eq_take_append_cons_drop]
    simp only [List.append_assoc, List.singleton_append]
    have h1' : i.toNat < (List.map (fun y => A.d (e y)) l).length := by rw [List.length_map]; exact h1
    rw [if_pos h1']
  simp only [sem, storeA, ho, if_true, hb, hcell, List.length_singleton, and_self, hp, Option.bind_some, updW]

/-- one cell of a struct that is an element of an array, by its number -/
theorem flatGet {f : α → List D} {z : Nat} (hz : ∀ a, (f a).length = z) : ∀ {l : List α} {j fo : Nat} {y : α}, l[j]? = some y → fo < z → (l.flatMap f)[j * z + fo]? = (f y)[fo]?
  | [], j, fo, y, h, _ => by cases j <;> cases h
  | a :: l, 0, fo, y, h, hf => by
    cases h
    rw [List.flatMap_cons, Nat.zero_mul, Nat.zero_add, List.getElem?_append_left (by rw [hz]; exact hf)]
  | a :: l, j + 1, fo, y, h, hf => by
    rw [List.flatMap_cons, List.getElem?_append_right (by rw [hz, Nat.add_mul]; omega), hz]
    have e : (j + 1) * z + fo - z = j * z + fo := by rw [Nat.add_mul]; omega
    rw [e]
    exact flatGet hz (by simpa using h) hf
theorem flatSub {f : α → List D} {z : Nat} (hz : ∀ a, (f a).length = z) {fo n : Nat} : ∀ {l : List α} {j : Nat} {y : α}, l[j]? = some y → fo + n ≤ z →
    ((l.flatMap f).drop (j * z + fo)).take n = ((f y).drop fo).take n ∧ j * z + fo + n ≤ (l.flatMap f).length
  | [], j, y, h, _ => by cases j <;> cases h
  | a :: l, 0, y, h, hf => by
    cases h
    rw [List.flatMap_cons, Nat.zero_mul, Nat.zero_add, List.drop_append_of_le_length (by rw [hz]; omega), List.take_append_of_le_length (by rw [List.length_drop, hz]; omega)]
    exact ⟨rfl, by rw [List.length_append, hz]; omega⟩
  | a :: l, j + 1, y, h, hf => by
    obtain ⟨h1, h2⟩ := flatSub hz (l := l) (j := j) (y := y) (by simpa using h) hf
    have e : (j + 1) * z + fo = (f a).length + (j * z + fo) := by rw [hz, Nat.add_mul]; omega
    rw [List.flatMap_cons, e, List.drop_append, List.length_append]
    refine ⟨?_, by omega⟩
    rw [List.drop_eq_nil_of_le (by omega), List.nil_append, Nat.add_sub_cancel_left, h1]
theorem allD_map : ∀ l : List D, allD (l.map A.d) = some l
  | [] => rfl
  | x :: l => by simp [allD, allD_map l]
theorem cut_ldB1 {v z fo : Nat} {id : Id} {l : List α} {i : Int} {y : α} {f : α → List D} {x : D} (h : idx l i = some y) (hz : ∀ a, (f a).length = z)
    (hb : bx id = some (.cells ((l.flatMap f).map A.d) v)) (ho : okId av id = true) (hx : (f y)[fo]? = some x) :
    sem C ⟨d, .load none, [], none, av, al⟩ [.ptr id v (0 + i.toNat * z + fo)] bx = some (.d x, updW bx []) := by
  obtain ⟨h0, h1, h2⟩ := idx_get h
  have hf : fo < z := by rw [← hz y]; exact (List.getElem?_eq_some_iff.1 hx).1
  simp only [sem, loadA, ho, if_true, hb, Nat.zero_add, List.getElem?_map, flatGet hz h2 hf, hx, Option.map_some, Option.bind_some, updW]
theorem cut_ldBn {v z fo n : Nat} {id : Id} {l : List α} {i : Int} {y : α} {f : α → List D} {xs : List D} (h : idx l i = some y) (hz : ∀ a, (f a).length = z)
    (hb : bx id = some (.cells ((l.flatMap f).map A.d) v)) (ho : okId av id = true) (hx : sub (f y) fo n = some xs) :
    sem C ⟨d, .load (some n), [], none, av, al⟩ [.ptr id v (0 + i.toNat * z + fo)] bx = some (.d (.agg xs), updW bx []) := by
  obtain ⟨h0, h1, h2⟩ := idx_get h
  unfold sub at hx
  split at hx
  · rename_i hn
    rw [hz] at hn
    obtain ⟨e1, e2⟩ := flatSub hz h2 hn
    have hx := (Option.some.inj hx)
    have : sub ((l.flatMap f).map A.d) (0 + i.toNat * z + fo) n = some (xs.map A.d) := by
      unfold sub
      rw [List.length_map, Nat.zero_add, if_pos e2, ← List.map_drop, ← List.map_take, e1, hx]
    simp only [sem, loadA, ho, if_true, hb, this, Option.bind_some, mkAgg, allD_map, updW]
  · cases hx

/-- the same, where the array is a part of a struct -/
theorem sub_mid {γ : Type} {pre m post : List γ} {o j n : Nat} (hp : pre.length = o) (h : j + n ≤ m.length) : sub (pre ++ m ++ post) (o + j) n = some ((m.drop j).take n) := by
  unfold sub
  rw [if_pos (by rw [List.length_append, List.length_append]; omega), List.append_assoc, List.drop_append, List.drop_eq_nil_of_le (by omega), List.nil_append]
  have e : o + j - pre.length = j := by omega
  rw [e, List.drop_append_of_le_length (by omega), List.take_append_of_le_length (by rw [List.length_drop]; omega)]
theorem cut_ldC1 {v z fo o : Nat} {id : Id} {l : List α} {i : Int} {y : α} {f : α → List D} {x : D} {pre post : List A} (h : idx l i = some y) (hz : ∀ a, (f a).length = z) (hp : pre.length = o)
    (hb : bx id = some (.cells (pre ++ (l.flatMap f).map A.d ++ post) v)) (ho : okId av id = true) (hx : (f y)[fo]? = some x) :
    sem C ⟨d, .load none, [], none, av, al⟩ [.ptr id v (o + i.toNat * z + fo)] bx = some (.d x, updW bx []) := by
  obtain ⟨h0, h1, h2⟩ := idx_get h
  have hf : fo < z := by rw [← hz y]; exact (List.getElem?_eq_some_iff.1 hx).1
  obtain ⟨_, e2⟩ := flatSub hz (fo := fo) (n := 1) h2 (by omega)
  have : (pre ++ (l.flatMap f).map A.d ++ post)[o + i.toNat * z + fo]? = some (.d x) := by
    rw [List.append_assoc, List.getElem?_append_right (by omega), List.getElem?_append_left (by rw [List.length_map]; omega)]
    have e : o + i.toNat * z + fo - pre.length = i.toNat * z + fo := by omega
    rw [e, List.getElem?_map, flatGet hz h2 hf, hx]; rfl
  simp only [sem, loadA, ho, if_true, hb, this, Option.bind_some, updW]
theorem cut_ldCn {v z fo n o : Nat} {id : Id} {l : List α} {i : Int} {y : α} {f : α → List D} {xs : List D} {pre post : List A} (h : idx l i = some y) (hz : ∀ a, (f a).length = z) (hp : pre.length = o)
    (hb : bx id = some (.cells (pre ++ (l.flatMap f).map A.d ++ post) v)) (ho : okId av id = true) (hx : sub (f y) fo n = some xs) :
    sem C ⟨d, .load (some n), [], none, av, al⟩ [.ptr id v (o + i.toNat * z + fo)] bx = some (.d (.agg xs), updW bx []) := by
  obtain ⟨h0, h1, h2⟩ := idx_get h
  unfold sub at hx
  split at hx
  · rename_i hn
    rw [hz] at hn
    obtain ⟨e1, e2⟩ := flatSub hz h2 hn
    have hx := (Option.some.inj hx)
    have : sub (pre ++ (l.flatMap f).map A.d ++ post) (o + i.toNat * z + fo) n = some (xs.map A.d) := by
      rw [Nat.add_assoc, sub_mid hp (by rw [List.length_map]; exact e2), ← List.map_drop, ← List.map_take, e1, hx]
    simp only [sem, loadA, ho, if_true, hb, this, Option.bind_some, mkAgg, allD_map, updW]
  · cases hx
theorem flatSet {f : α → List D} {z : Nat} (hz : ∀ a, (f a).length = z) {y' : α} : ∀ {l : List α} {j : Nat}, j < l.length →
    ((l.set j y').flatMap f) = (l.flatMap f).take (j * z) ++ f y' ++ (l.flatMap f).drop (j * z + z)
  | a :: l, 0, _ => by
    rw [List.set_cons_zero, List.flatMap_cons, List.flatMap_cons, Nat.zero_mul, List.take_zero, List.nil_append, Nat.zero_add, List.drop_append, List.drop_eq_nil_of_le (by rw [hz]; omega), hz, Nat.sub_self, List.drop_zero, List.nil_append]
  | a :: l, j + 1, h => by
    have e : (j + 1) * z = (f a).length + j * z := by rw [hz, Nat.add_mul]; omega
    rw [List.set_cons_succ, List.flatMap_cons, List.flatMap_cons, flatSet hz (by simpa using h), e, List.take_length_add_append, Nat.add_assoc, List.drop_length_add_append]
    simp only [List.append_assoc]
theorem cut_stC {v z o : Nat} {id : Id} {l l' : List α} {i : Int} {y y' : α} {f : α → List D} {pre post : List A} (h : idx l i = some y) (hz : ∀ a, (f a).length = z) (hp : pre.length = o)
    (hb : bx id = some (.cells (pre ++ (l.flatMap f).map A.d ++ post) v)) (ho : (okId av id && alOk al id) = true) (hs : l.set i.toNat y' = l') :
    sem C ⟨d, .store z, [], none, av, al⟩ [.ptr id v (o + i.toNat * z), .d (.agg (f y'))] bx = some (.tup [], updW bx [(id, some (.cells (pre ++ (l'.flatMap f).map A.d ++ post) v))]) := by
  obtain ⟨h0, h1, h2⟩ := idx_get h
  have hc : (A.d (.agg (f y'))).cells = (f y').map A.d := rfl
  obtain ⟨_, e2⟩ := flatSub hz (fo := 0) (n := z) h2 (by omega)
  have hp' : put (pre ++ (l.flatMap f).map A.d ++ post) (o + i.toNat * z) ((f y').map A.d) = some (pre ++ (l'.flatMap f).map A.d ++ post) := by
    subst hs
    unfold put
    rw [if_pos (by rw [List.length_append, List.length_append, List.length_map, List.length_map, hz]; omega), flatSet hz h1, List.length_map, hz]
    have a1 : (pre ++ (l.flatMap f).map A.d ++ post).take (o + i.toNat * z) = pre ++ ((l.flatMap f).take (i.toNat * z)).map A.d := by
      rw [List.append_assoc, List.take_append, List.take_of_length_le (by omega), List.take_append_of_le_length (by rw [List.length_map]; omega), List.map_take]
      have e : o + i.toNat * z - pre.length = i.toNat * z := by omega
      rw [e]
    have a2 : (pre ++ (l.flatMap f).map A.d ++ post).drop (o + i.toNat * z + z) = ((l.flatMap f).drop (i.toNat * z + z)).map A.d ++ post := by
      rw [List.append_assoc, List.drop_append, List.drop_eq_nil_of_le (by omega), List.nil_append]
      have e : o + i.toNat * z + z - pre.length = i.toNat * z + z := by omega
      rw [e, List.drop_append_of_le_length (by rw [List.length_map]; omega), List.map_drop]
    rw [a1, a2]
    simp only [List.map_append, List.append_assoc]
  simp only [sem, storeA, ho, if_true, hb, hc, List.length_map, hz, and_self, hp', Option.bind_some, updW]

structure A2 (α : Type) where
  a0 : α
  a1 : α
  deriving DecidableEq, Inhabited
def A2.l (x : A2 α) : List α := [x.a0, x.a1]
def A2.set (x : A2 α) (i : Int) (y : α) : A2 α := ⟨if i = 0 then y else x.a0, if i = 1 then y else x.a1⟩
def A2.wf (w : α → Prop) (x : A2 α) : Prop := w x.a0 ∧ w x.a1
theorem A2.len (x : A2 α) : x.l.length = 2 := rfl
theorem A2.setl {x : A2 α} {i : Int} {y z : α} (h : idx x.l i = some z) : x.l.set i.toNat y = (x.set i y).l := by
  obtain ⟨h0, h1, h2⟩ := idx_get h
  rw [A2.len] at h1
  obtain ⟨j, rfl⟩ : ∃ j : Nat, i = j := ⟨i.toNat, by omega⟩
  rw [Int.toNat_natCast] at h1 ⊢
  match j, h1 with
  | 0, _ => rfl
  | 1, _ => rfl
theorem A2.get_set {x : A2 α} {i : Int} {y z : α} (h : idx x.l i = some z) : idx (x.set i y).l i = some y := by rw [← A2.setl h]; exact idx_set h
structure A3 (α : Type) where
  a0 : α
  a1 : α
  a2 : α
  deriving DecidableEq, Inhabited
def A3.l (x : A3 α) : List α := [x.a0, x.a1, x.a2]
def A3.set (x : A3 α) (i : Int) (y : α) : A3 α := ⟨if i = 0 then y else x.a0, if i = 1 then y else x.a1, if i = 2 then y else x.a2⟩
def A3.wf (w : α → Prop) (x : A3 α) : Prop := w x.a0 ∧ w x.a1 ∧ w x.a2
theorem A3.len (x : A3 α) : x.l.length = 3 := rfl
theorem A3.setl {x : A3 α} {i : Int} {y z : α} (h : idx x.l i = some z) : x.l.set i.toNat y = (x.set i y).l := by
  obtain ⟨h0, h1, h2⟩ := idx_get h
  rw [A3.len] at h1
  obtain ⟨j, rfl⟩ : ∃ j : Nat, i = j := ⟨i.toNat, by omega⟩
  rw [Int.toNat_natCast] at h1 ⊢
  match j, h1 with
  | 0, _ => rfl
  | 1, _ => rfl
  | 2, _ => rfl
theorem A3.get_set {x : A3 α} {i : Int} {y z : α} (h : idx x.l i = some z) : idx (x.set i y).l i = some y := by rw [← A3.setl h]; exact idx_set h
structure A4 (α : Type) where
  a0 : α
  a1 : α
  a2 : α
  a3 : α
  deriving DecidableEq, Inhabited
def A4.l (x : A4 α) : List α := [x.a0, x.a1, x.a2, x.a3]
def A4.set (x : A4 α) (i : Int) (y : α) : A4 α := ⟨if i = 0 then y else x.a0, if i = 1 then y else x.a1, if i = 2 then y else x.a2, if i = 3 then y else x.a3⟩
def A4.wf (w : α → Prop) (x : A4 α) : Prop := w x.a0 ∧ w x.a1 ∧ w x.a2 ∧ w x.a3
theorem A4.len (x : A4 α) : x.l.length = 4 := rfl
theorem A4.setl {x : A4 α} {i : Int} {y z : α} (h : idx x.l i = some z) : x.l.set i.toNat y = (x.set i y).l := by
  obtain ⟨h0, h1, h2⟩ := idx_get h
  rw [A4.len] at h1
  obtain ⟨j, rfl⟩ : ∃ j : Nat, i = j := ⟨i.toNat, by omega⟩
  rw [Int.toNat_natCast] at h1 ⊢
  match j, h1 with
  | 0, _ => rfl
  | 1, _ => rfl
  | 2, _ => rfl
  | 3, _ => rfl
theorem A4.get_set {x : A4 α} {i : Int} {y z : α} (h : idx x.l i = some z) : idx (x.set i y).l i = some y := by rw [← A4.setl h]; exact idx_set h
structure A5 (α : Type) where
  a0 : α
  a1 : α
  a2 : α
  a3 : α
  a4 : α
  deriving DecidableEq, Inhabited
def A5.l (x : A5 α) : List α := [x.a0, x.a1, x.a2, x.a3, x.a4]
def A5.set (x : A5 α) (i : Int) (y : α) : A5 α := ⟨if i = 0 then y else x.a0, if i = 1 then y else x.a1, if i = 2 then y else x.a2, if i = 3 then y else x.a3, if i = 4 then y else x.a4⟩
def A5.wf (w : α → Prop) (x : A5 α) : Prop := w x.a0 ∧ w x.a1 ∧ w x.a2 ∧ w x.a3 ∧ w x.a4
theorem A5.len (x : A5 α) : x.l.length = 5 := rfl
theorem A5.setl {x : A5 α} {i : Int} {y z : α} (h : idx x.l i = some z) : x.l.set i.toNat y = (x.set i y).l := by
  obtain ⟨h0, h1, h2⟩ := idx_get h
  rw [A5.len] at h1
  obtain ⟨j, rfl⟩ : ∃ j : Nat, i = j := ⟨i.toNat, by omega⟩
  rw [Int.toNat_natCast] at h1 ⊢
  match j, h1 with
  | 0, _ => rfl
  | 1, _ => rfl
  | 2, _ => rfl
  | 3, _ => rfl
  | 4, _ => rfl
theorem A5.get_set {x : A5 α} {i : Int} {y z : α} (h : idx x.l i = some z) : idx (x.set i y).l i = some y := by rw [← A5.setl h]; exact idx_set h
structure A8 (α : Type) where
  a0 : α
  a1 : α
  a2 : α
  a3 : α
  a4 : α
  a5 : α
  a6 : α
  a7 : α
  deriving DecidableEq, Inhabited
def A8.l (x : A8 α) : List α := [x.a0, x.a1, x.a2, x.a3, x.a4, x.a5, x.a6, x.a7]
def A8.set (x : A8 α) (i : Int) (y : α) : A8 α := ⟨if i = 0 then y else x.a0, if i = 1 then y else x.a1, if i = 2 then y else x.a2, if i = 3 then y else x.a3, if i = 4 then y else x.a4, if i = 5 then y else x.a5, if i = 6 then y else x.a6, if i = 7 then y else x.a7⟩
def A8.wf (w : α → Prop) (x : A8 α) : Prop := w x.a0 ∧ w x.a1 ∧ w x.a2 ∧ w x.a3 ∧ w x.a4 ∧ w x.a5 ∧ w x.a6 ∧ w x.a7
theorem A8.len (x : A8 α) : x.l.length = 8 := rfl
theorem A8.setl {x : A8 α} {i : Int} {y z : α} (h : idx x.l i = some z) : x.l.set i.toNat y = (x.set i y).l := by
  obtain ⟨h0, h1, h2⟩ := idx_get h
  rw [A8.len] at h1
  obtain ⟨j, rfl⟩ : ∃ j : Nat, i = j := ⟨i.toNat, by omega⟩
  rw [Int.toNat_natCast] at h1 ⊢
  match j, h1 with
  | 0, _ => rfl
  | 1, _ => rfl
  | 2, _ => rfl
  | 3, _ => rfl
  | 4, _ => rfl
  | 5, _ => rfl
  | 6, _ => rfl
  | 7, _ => rfl
theorem A8.get_set {x : A8 α} {i : Int} {y z : α} (h : idx x.l i = some z) : idx (x.set i y).l i = some y := by rw [← A8.setl h]; exact idx_set h
/-- as data -/
def A2.ag {α : Type} (e : α → D) (x : A2 α) : D := .agg [e x.a0, e x.a1]
/-- as data -/
def A3.ag {α : Type} (e : α → D) (x : A3 α) : D := .agg [e x.a0, e x.a1, e x.a2]
/-- as data -/
def A4.ag {α : Type} (e : α → D) (x : A4 α) : D := .agg [e x.a0, e x.a1, e x.a2, e x.a3]
/-- as data -/
def A5.ag {α : Type} (e : α → D) (x : A5 α) : D := .agg [e x.a0, e x.a1, e x.a2, e x.a3, e x.a4]
/-- as data -/
def A8.ag {α : Type} (e : α → D) (x : A8 α) : D := .agg [e x.a0, e x.a1, e x.a2, e x.a3, e x.a4, e x.a5, e x.a6, e x.a7]
end Go.Es

namespace Go.Es
variable {P : Program} {α : Type}

/-! ### what comes in, as plain values -/
/-- Data of a type read as plain values. -/
def Dec (P : Program) (t : TypeId) (cs : α → List D) (wf : α → Prop) : Prop := ∀ l, OfT P t l → ∃ v, l = cs v ∧ wf v

def wfI (k : IntKind) (n : Int) : Prop := (Lit.int k n).wf = true
def wfL (wf : α → Prop) (l : List α) : Prop := l.length ≤ maxLen ∧ ∀ v ∈ l, wf v
def wfS (s : List UInt8) : Prop := s.length ≤ maxLen

theorem wfI_iff {k : IntKind} {n : Int} : wfI k n ↔ k.min ≤ n ∧ n ≤ k.max := by
  unfold wfI; simp [Lit.wf]
theorem wfI_i64 {n : Int} : wfI .i64 n ↔ -9223372036854775808 ≤ n ∧ n ≤ 9223372036854775807 := by
  rw [wfI_iff]; simp [IntKind.min, IntKind.max, IntKind.signed, IntKind.bits]
theorem wfI_u8 {n : Int} : wfI .u8 n ↔ 0 ≤ n ∧ n ≤ 255 := by
  rw [wfI_iff]; simp [IntKind.min, IntKind.max, IntKind.signed, IntKind.bits]
theorem wfI_u16 {n : Int} : wfI .u16 n ↔ 0 ≤ n ∧ n ≤ 65535 := by
  rw [wfI_iff]; simp [IntKind.min, IntKind.max, IntKind.signed, IntKind.bits]
theorem wfI_u32 {n : Int} : wfI .u32 n ↔ 0 ≤ n ∧ n ≤ 4294967295 := by
  rw [wfI_iff]; simp [IntKind.min, IntKind.max, IntKind.signed, IntKind.bits]
theorem wfI_u64 {n : Int} : wfI .u64 n ↔ 0 ≤ n ∧ n ≤ 18446744073709551615 := by
  rw [wfI_iff]; simp [IntKind.min, IntKind.max, IntKind.signed, IntKind.bits]

theorem dec_int {t : TypeId} {k : IntKind} (hu : P.underlying t = some (.int k)) : Dec P t (fun n => [.int k n]) (wfI k) := by
  intro l h
  cases h with
  | int _ k' n h hw => rw [hu] at h; cases h; exact ⟨n, rfl, hw⟩
  | bool _ _ h => rw [hu] at h; cases h
  | str _ _ h _ => rw [hu] at h; cases h
  | slice _ _ _ h => rw [hu] at h; cases h
  | struct _ _ _ h => rw [hu] at h; cases h
  | array _ _ _ _ h => rw [hu] at h; cases h
theorem dec_bool {t : TypeId} (hu : P.underlying t = some .bool) : Dec P t (fun b => [.bool b]) (fun _ => True) := by
  intro l h
  cases h with
  | int _ k' n h hw => rw [hu] at h; cases h
  | bool _ b h => exact ⟨b, rfl, trivial⟩
  | str _ _ h _ => rw [hu] at h; cases h
  | slice _ _ _ h => rw [hu] at h; cases h
  | struct _ _ _ h => rw [hu] at h; cases h
  | array _ _ _ _ h => rw [hu] at h; cases h
theorem dec_str {t : TypeId} (hu : P.underlying t = some .string) : Dec P t (fun s => [.str s]) wfS := by
  intro l h
  cases h with
  | int _ k' n h hw => rw [hu] at h; cases h
  | bool _ b h => rw [hu] at h; cases h
  | str _ s h hl => exact ⟨s, rfl, hl⟩
  | slice _ _ _ h => rw [hu] at h; cases h
  | struct _ _ _ h => rw [hu] at h; cases h
  | array _ _ _ _ h => rw [hu] at h; cases h

/-- A datum of a type whose data are of this shape. -/
def DecD (P : Program) (t : TypeId) (e : α → D) (wf : α → Prop) : Prop := ∀ x, OfT P t x.cells → aggShape P t x → ∃ v, x = e v ∧ wf v

def isAggT (P : Program) (t : TypeId) : Bool := match P.underlying t with | some (.struct _) | some (.array _ _) => true | _ => false

theorem decD_flat {t : TypeId} {e : α → D} {wf : α → Prop} (ha : isAggT P t = false) (h : Dec P t (fun v => [e v]) wf) : DecD P t e wf := by
  intro x hx hs
  obtain ⟨v, he, hw⟩ := h _ hx
  unfold isAggT at ha
  unfold aggShape at hs
  split at hs
  · rename_i h1; rw [h1] at ha; cases ha
  · rename_i h1; rw [h1] at ha; cases ha
  · obtain ⟨y, rfl, hf⟩ := hs
    refine ⟨v, ?_, hw⟩
    cases x with
    | agg cs => cases hf
    | _ => simp only [D.cells, List.cons.injEq, and_true] at he; exact he
theorem decD_agg {t : TypeId} {cs : α → List D} {wf : α → Prop} (ha : isAggT P t = true) (h : Dec P t cs wf) : DecD P t (fun v => .agg (cs v)) wf := by
  intro x hx hs
  obtain ⟨v, he, hw⟩ := h _ hx
  unfold isAggT at ha
  unfold aggShape at hs
  refine ⟨v, ?_, hw⟩
  split at hs
  · obtain ⟨l, rfl⟩ := hs; simp only [D.cells] at he; rw [he]
  · obtain ⟨l, rfl⟩ := hs; simp only [D.cells] at he; rw [he]
  · rename_i h1 h2
    split at ha
    · rename_i fs h3; exact absurd h3 (h1 fs)
    · rename_i n e h3; exact absurd h3 (h2 n e)
    · cases ha

theorem list_dec {e : α → D} {wf : α → Prop} : ∀ {es : List D}, (∀ i (h : i < es.length), ∃ v, es[i] = e v ∧ wf v) → ∃ l : List α, es = l.map e ∧ ∀ v ∈ l, wf v
  | [], _ => ⟨[], rfl, fun v h => by cases h⟩
  | x :: r, h => by
    obtain ⟨v, hv, hw⟩ := h 0 (by simp)
    obtain ⟨l, hl, hws⟩ := list_dec (es := r) fun i hi => h (i + 1) (by simpa using hi)
    refine ⟨v :: l, ?_, fun u hu => ?_⟩
    · simp only [List.getElem_cons_zero] at hv; rw [hv, hl]; rfl
    · rcases List.mem_cons.1 hu with rfl | hu
      · exact hw
      · exact hws u hu

theorem dec_slice {t te : TypeId} {e : α → D} {wf : α → Prop} (hu : P.underlying t = some (.slice te)) (hd : DecD P te e wf) : Dec P t (fun l => [.sl (List.map e l)]) (wfL wf) := by
  intro l h
  cases h with
  | int _ k' n h hw => rw [hu] at h; cases h
  | bool _ b h => rw [hu] at h; cases h
  | str _ _ h _ => rw [hu] at h; cases h
  | slice _ e' es h hl hc ha =>
    rw [hu] at h; cases h
    obtain ⟨l, hl', hw⟩ := list_dec (e := e) (wf := wf) fun i hi => hd es[i] (hc i hi) (ha i hi)
    subst hl'
    exact ⟨l, rfl, by simpa using hl, hw⟩
  | struct _ _ _ h => rw [hu] at h; cases h
  | array _ _ _ _ h => rw [hu] at h; cases h

def fieldsOf (P : Program) (t : TypeId) : List (TypeId × Nat) := match P.underlying t with | some (.struct fs) => fs.toList.map fun f => (f.type, f.offset) | _ => []
def arrOf (P : Program) (t : TypeId) : Option (Nat × TypeId) := match P.underlying t with | some (.array n e) => some (n, e) | _ => none

theorem of_struct {t : TypeId} {l : List D} (h : OfT P t l) (hs : (fieldsOf P t).isEmpty = false) : l.length = P.cellsOf t ∧ ∀ ft off n, (ft, off) ∈ fieldsOf P t → P.cellsOf ft = n → OfT P ft ((l.drop off).take n) := by
  unfold fieldsOf at *
  split at hs
  · rename_i fs hu
    cases h with
    | int _ k' n h hw => rw [hu] at h; cases h
    | bool _ b h => rw [hu] at h; cases h
    | str _ _ h _ => rw [hu] at h; cases h
    | slice _ _ _ h => rw [hu] at h; cases h
    | struct _ fs' cs h hl hf =>
      rw [hu] at h; cases h
      refine ⟨hl, fun ft off n hm hn => ?_⟩
      subst hn
      simp only [List.mem_map, Prod.mk.injEq] at hm
      obtain ⟨f, hf', rfl, rfl⟩ := hm
      exact hf f hf'
    | array _ _ _ _ h => rw [hu] at h; cases h
  · cases hs

theorem of_array {t te : TypeId} {n m : Nat} {l : List D} (h : OfT P t l) (hs : arrOf P t = some (n, te)) (hm : P.cellsOf te = m) : l.length = P.cellsOf t ∧ ∀ i, i < n → OfT P te ((l.drop (i * m)).take m) := by
  unfold arrOf at hs
  split at hs
  · rename_i n' e' hu
    cases hs
    subst hm
    cases h with
    | int _ k' n h hw => rw [hu] at h; cases h
    | bool _ b h => rw [hu] at h; cases h
    | str _ _ h _ => rw [hu] at h; cases h
    | slice _ _ _ h => rw [hu] at h; cases h
    | struct _ _ _ h => rw [hu] at h; cases h
    | array _ n e cs h hl hf => rw [hu] at h; cases h; exact ⟨hl, hf⟩
  · cases hs

/-! ### types that come again in their own parts -/
def DecN (P : Program) (t : TypeId) (cs : α → List D) (wf : α → Prop) (n : Nat) : Prop := ∀ l, SizeOf.sizeOf l < n → OfT P t l → ∃ v, l = cs v ∧ wf v
theorem dec_rec {t : TypeId} {cs : α → List D} {wf : α → Prop} (h : ∀ n, DecN P t cs wf n → ∀ l, SizeOf.sizeOf l = n → OfT P t l → ∃ v, l = cs v ∧ wf v) : Dec P t cs wf := by
  have key : ∀ n, DecN P t cs wf n := by
    intro n
    induction n with
    | zero => intro l hl; omega
    | succ n ih =>
      intro l hl ho
      rcases Nat.lt_or_ge (SizeOf.sizeOf l) n with h1 | h1
      · exact ih l h1 ho
      · exact h n ih l (by omega) ho
  intro l ho
  exact key (SizeOf.sizeOf l + 1) l (by omega) ho

/-- a list of such, that is kept as data -/
def wfR (e : α → D) (wf : α → Prop) (l : List D) : Prop := ∃ bs : List α, l = bs.map e ∧ bs.length ≤ maxLen ∧ ∀ b ∈ bs, wf b
theorem dec_self {ts t : TypeId} {cs : α → List D} {wf : α → Prop} {n : Nat} (hu : P.underlying ts = some (.slice t)) (ha : isAggT P t = true) (hd : DecN P t cs wf n) {c : D} (hs : SizeOf.sizeOf c ≤ n) (h : OfT P ts [c]) :
    ∃ bs : List α, c = .sl (bs.map fun v => .agg (cs v)) ∧ bs.length ≤ maxLen ∧ ∀ b ∈ bs, wf b := by
  cases h with
  | int _ k' n h hw => rw [hu] at h; cases h
  | bool _ b h => rw [hu] at h; cases h
  | str _ _ h _ => rw [hu] at h; cases h
  | slice _ e' es h hl hc hsh =>
    rw [hu] at h; cases h
    obtain ⟨l, hl', hw⟩ := list_dec (e := fun v => D.agg (cs v)) (wf := wf) (es := es) fun i hi => by
      have h1 := hsh i hi
      unfold aggShape at h1
      unfold isAggT at ha
      have h2 : ∃ l, es[i] = .agg l := by
        split at h1
        · exact h1
        · exact h1
        · rename_i n1 n2
          split at ha
          · rename_i fs h3; exact absurd h3 (n1 fs)
          · rename_i n e h3; exact absurd h3 (n2 n e)
          · cases ha
      obtain ⟨l, he⟩ := h2
      have hlt : SizeOf.sizeOf l < n := by
        have h4 : SizeOf.sizeOf es[i] < SizeOf.sizeOf es := List.sizeOf_lt_of_mem (List.getElem_mem hi)
        rw [he] at h4
        simp only [D.agg.sizeOf_spec] at h4
        simp only [D.sl.sizeOf_spec] at hs
        omega
      obtain ⟨v, h5, h6⟩ := hd l hlt (by have := hc i hi; rw [he] at this; exact this)
      exact ⟨v, by rw [he, h5], h6⟩
    subst hl'
    exact ⟨l, rfl, by simpa using hl, hw⟩
  | struct _ _ _ h => rw [hu] at h; cases h
  | array _ _ _ _ h => rw [hu] at h; cases h
theorem dec_sliceR {t te : TypeId} {e : α → D} {wf : α → Prop} (hu : P.underlying t = some (.slice te)) (hd : DecD P te e wf) : Dec P t (fun l : List D => [.sl (List.map id l)]) (wfR e wf) := by
  intro l h
  obtain ⟨bs, h1, h2, h3⟩ := dec_slice hu hd l h
  exact ⟨bs.map e, by simp only [List.map_id]; exact h1, bs, rfl, h2, h3⟩
end Go.Es

namespace Go.Es

/-! ### laws of plain Lean -/
section
variable {α β : Type}

/-- A loop that keeps something, and comes nearer to its end with each round. -/
theorem loop_rule {f : α → Option (Lp α β)} (I : α → Prop) (m : α → Nat) (Q : β → Prop)
    (h : ∀ x, I x → (∃ y, f x = some (.next y) ∧ I y ∧ m y < m x) ∨ (∃ b, f x = some (.out b) ∧ Q b)) {x : α} (hx : I x) : ∃ b, loopO f x = some b ∧ Q b := by
  have key : ∀ n x, m x < n → I x → ∃ b, loopO f x = some b ∧ Q b := by
    intro n
    induction n with
    | zero => intro x h; omega
    | succ n ih =>
      intro x hm hx
      rcases h x hx with ⟨y, hy, hI, hlt⟩ | ⟨b, hb, hQ⟩
      · obtain ⟨b, h1, h2⟩ := ih y (by omega) hI
        exact ⟨b, by rw [loopO_eq, hy]; exact h1, h2⟩
      · exact ⟨b, by rw [loopO_eq, hb]; rfl, hQ⟩
  exact key (m x + 1) x (by omega) hx

/-- A loop whose outcome is told ahead. -/
theorem loop_to {f : α → Option (Lp α β)} (g : α → β) (I : α → Prop) (m : α → Nat)
    (h : ∀ x, I x → (∃ y, f x = some (.next y) ∧ I y ∧ m y < m x ∧ g y = g x) ∨ f x = some (.out (g x))) {x : α} (hx : I x) : loopO f x = some (g x) := by
  obtain ⟨b, h1, h2⟩ := loop_rule (f := f) (fun y => I y ∧ g y = g x) m (fun b => b = g x) (fun y hy => by
    rcases h y hy.1 with ⟨z, h1, h2, h3, h4⟩ | h1
    · exact .inl ⟨z, h1, ⟨h2, h4.trans hy.2⟩, h3⟩
    · exact .inr ⟨_, h1, hy.2⟩) ⟨hx, rfl⟩
  rw [h1, h2]

theorem idx_eq {l : List α} {i : Int} (h0 : 0 ≤ i) (h1 : i < (l.length : Int)) : idx l i = some (l[i.toNat]'(by omega)) := by
  unfold idx
  rw [if_pos h0, List.getElem?_eq_getElem]
theorem idx_nat {l : List α} {i : Nat} (h : i < l.length) : idx l (i : Int) = some l[i] := by
  rw [idx_eq (by omega) (by omega)]; simp
theorem idx_none {l : List α} {i : Int} (h : i < 0 ∨ (l.length : Int) ≤ i) : idx l i = none := by
  unfold idx
  split
  · exact List.getElem?_eq_none (by omega)
  · rfl
theorem mk_eq {b : Nat} {z : α} {n : Int} (h0 : 0 ≤ n) (h1 : n * b ≤ 2 ^ 40) (h2 : n ≤ 2 ^ 40) : mk b z n = some (List.replicate n.toNat z) := by
  unfold mk; rw [if_pos ⟨h0, h1, h2⟩]
theorem grow_eq {b : Nat} {l m : List α} (h1 : (l.length + m.length) * b ≤ 2 ^ 40) (h2 : l.length + m.length ≤ 2 ^ 40) : grow b l m = some (l ++ m) := by
  unfold grow; rw [if_pos ⟨h1, h2⟩]
theorem catS_eq {a b : List UInt8} (h : a.length + b.length ≤ 2 ^ 40) : catS a b = some (a ++ b) := by
  unfold catS; rw [if_pos h]
theorem cutL_eq {l : List α} {lo hi : Int} (h0 : 0 ≤ lo) (h1 : lo ≤ hi) (h2 : hi ≤ (l.length : Int)) : cutL l lo hi = some ((l.drop lo.toNat).take (hi.toNat - lo.toNat)) := by
  unfold cutL; rw [if_pos ⟨h0, h1, h2⟩]
theorem cut3_eq {l : List α} {lo hi mx : Int} (h0 : 0 ≤ lo) (h1 : lo ≤ hi) (h2 : hi ≤ mx) (h3 : mx ≤ (l.length : Int)) : cut3 l lo hi mx = some ((l.drop lo.toNat).take (hi.toNat - lo.toNat)) := by
  unfold cut3; rw [if_pos ⟨h0, h1, h2, h3⟩]
end

theorem mnI_eq (x y : Int) : mnI x y = min x y := by unfold mnI; split <;> omega
theorem mxI_eq (x y : Int) : mxI x y = max x y := by unfold mxI; split <;> omega

theorem wrap64 {n : Int} (h0 : -9223372036854775808 ≤ n) (h1 : n ≤ 9223372036854775807) : IntKind.wrap .i64 n = n := by rw [IntKind.wrap_i64]; omega
theorem wrapu8 {n : Int} (h0 : 0 ≤ n) (h1 : n ≤ 255) : IntKind.wrap .u8 n = n := by rw [IntKind.wrap_u8]; omega
theorem wrap_u16' (n : Int) : IntKind.wrap .u16 n = n % 65536 := by simp [IntKind.wrap, IntKind.bits, IntKind.signed]
theorem wrap_u64' (n : Int) : IntKind.wrap .u64 n = n % 18446744073709551616 := by simp [IntKind.wrap, IntKind.bits, IntKind.signed]
theorem wrapu16 {n : Int} (h0 : 0 ≤ n) (h1 : n ≤ 65535) : IntKind.wrap .u16 n = n := by rw [wrap_u16']; omega

theorem ofInt_toNat (w : Nat) (n : Int) : ((BitVec.ofInt w n).toNat : Int) = n % (2 ^ w : Nat) := by
  rw [BitVec.toNat_ofInt]
  have : (0 : Int) < ((2 ^ w : Nat) : Int) := by exact_mod_cast Nat.two_pow_pos w
  exact Int.toNat_of_nonneg (Int.emod_nonneg _ (by omega))

/-- 'x & (2^j - 1)' -/
theorem and_mask (x : Int) (j : Nat) (hj : j ≤ 62) : bitsOp .and .i64 x ((2 ^ j - 1 : Nat) : Int) = x % (2 ^ j : Nat) := by
  have hp : 2 ^ j ≤ 2 ^ 62 := Nat.pow_le_pow_right (by omega) hj
  have h1 : 0 < 2 ^ j := Nat.two_pow_pos j
  have e1 : (BitVec.ofInt 64 ((2 ^ j - 1 : Nat) : Int)).toNat = 2 ^ j - 1 := by
    rw [BitVec.toNat_ofInt]; omega
  have e2 : (BitVec.ofInt 64 x &&& BitVec.ofInt 64 ((2 ^ j - 1 : Nat) : Int)).toNat = (BitVec.ofInt 64 x).toNat % 2 ^ j := by
    rw [BitVec.toNat_and, e1, Nat.and_two_pow_sub_one_eq_mod]
  have h3 : (((BitVec.ofInt 64 x).toNat % 2 ^ j : Nat) : Int) = x % (2 ^ j : Nat) := by
    rw [Int.natCast_emod, ofInt_toNat]
    have hd : ((2 ^ j : Nat) : Int) ∣ ((2 ^ 64 : Nat) : Int) := by
      exact_mod_cast Nat.pow_dvd_pow 2 (by omega : j ≤ 64)
    exact Int.emod_emod_of_dvd x hd
  have h4 : (BitVec.ofInt 64 x).toNat % 2 ^ j < 2 ^ j := Nat.mod_lt _ h1
  have h5 : bitsOp .and .i64 x ((2 ^ j - 1 : Nat) : Int) = IntKind.wrap .i64 (((BitVec.ofInt 64 x &&& BitVec.ofInt 64 ((2 ^ j - 1 : Nat) : Int)).toNat : Nat) : Int) := rfl
  rw [h5, e2, wrap64 (by omega) (by omega), h3]

theorem shr_eq {k : IntKind} {x : Int} {j : Nat} (hj : j ≤ k.bits) : shrI k x (j : Int) = x / (2 ^ j : Nat) := by
  unfold shrI
  rw [Int.toNat_natCast, Nat.min_eq_left hj, Int.fdiv_eq_ediv_of_nonneg _ (by exact_mod_cast Nat.zero_le _)]
  simp
end Go.Es

namespace Go.Es

variable {df : List Deferred} {mg m0 : Mm} {w0 : World} {OO : Nat → Prop} {g : Gh} {bx : Bx} {w : World} {P : Program} {N : Nat} {pa : List A} {pv : List Value}

/-! ### panics with a number -/
/-- What a frame that has died leaves. -/
structure Dead (m0 : Mm) (w0 : World) (O : Nat → Prop) (m : Mm) (w : World) : Prop where
  mle : m0.le m
  cons : Cons m w
  keep : ∀ b, b < w0.heap.size → ¬ O b → w.heap[b]? = w0.heap[b]? ∧ ∀ o, m b o = m0 b o
  size : Grown w0 w
  os : w.os = w0.os
  tape : w.tape = w0.tape
  output : w.output = w0.output

theorem Inv.dead (h : Inv m0 w0 OO g bx w) : Dead m0 w0 OO g.m w := ⟨h.mle, h.sim.cons, h.keep, h.size, h.os, h.tape, h.output⟩

def chain (U : Nat) (e : Int) : List PanicEntry := [{ v := .iface U (.int .i64 e), recovered := false }]

abbrev Kd := Nat → List T → Int → Prop

/-- Function f, called so, panics with the number e of type U. -/
def DiesOn (mg : Mm) (P : Program) (U : Nat) (f : Nat) (args : List T) (e : Int) : Prop :=
  ∀ m w vs bs, mg.le m → Cons m w → Each (RT m w) args vs bs → bs.Nodup → (∀ b ∈ bs, b < w.heap.size) →
    (∃ fn, P.funcs[f]? = some fn ∧ fn.body.isSome = true ∧ (fn.name == "runtime.NumGoroutine") = false) ∧
    Calls P f vs.toArray w fun en w' => ∃ m', en = .panicked (chain U e) ∧ Dead m w (· ∈ bs) m' w'

/-- A call that dies. -/
def dieCall (K : Kd) (av : List Id) (al : Option (List Id)) (bx : Bx) (f : Nat) (args : List A) (e : Int) : Prop :=
  ∃ ts bx1, (apartIds (ptrIds (args.map (lendX av bx))) && (ptrIds (args.map (lendX av bx))).all (alOk al)) = true ∧
    gives (lids (args.map (lendX av bx)) ++ av) al bx (args.map (lendX av bx)) = some (ts, bx1) ∧ K f ts e

theorem dieCall_spec {U : Nat} {av : List Id} {al : Option (List Id)} {f : Nat} {args : List A} {vs : List Value} {e : Int} (h : Inv m0 w0 OO g bx w) (hmg : mg.le m0) (hv : RAl g bx args vs)
    (hd : dieCall (DiesOn mg P U) av al bx f args e) :
    (∃ fn, P.funcs[f]? = some fn ∧ fn.body.isSome = true ∧ (fn.name == "runtime.NumGoroutine") = false) ∧
    Calls P f vs.toArray w fun en w' => ∃ m', en = .panicked (chain U e) ∧ Dead m0 w0 OO m' w' := by
  obtain ⟨ts, bx1, hap, h1, hK⟩ := hd
  have hv := lendX_ral (av := av) hv
  generalize args.map (lendX av bx) = args at hap h1 hv
  have hap := apartIds_spec (by
    simp only [Bool.and_eq_true] at hap
    exact hap.1)
  have g0 : Gave (lids args ++ av) m0 w0 OO [] [] g bx w := ⟨h, List.nodup_nil, (fun b hb => by cases hb), (fun b hb => by cases hb), (fun i hi => by cases hi)⟩
  obtain ⟨E', g1, bs, hE, k, rts⟩ := gives_spec g0 hv h1 hap (fun i _ hi => by cases hi) (lids_av args av)
  have kg := k.gave
  simp only [List.nil_append] at kg
  obtain ⟨hfn, hc⟩ := hK g1.m w vs bs (fun b o v hb => kg.inv.mle _ _ _ (hmg _ _ _ hb)) kg.inv.sim.cons rts kg.nodup (fun b hb => (kg.own b hb).2)
  refine ⟨hfn, hc.mono ?_⟩
  rintro en w' ⟨m', rfl, a⟩
  refine ⟨m', rfl, ?_⟩
  exact {
    mle := fun b o v hb => a.mle _ _ _ (kg.inv.mle _ _ _ hb)
    cons := a.cons
    keep := fun b hb hO => by
      have hnb : b ∉ bs := fun hm => by
        rcases (kg.own b hm).1 with h | h
        · omega
        · exact hO h
      obtain ⟨h1, h2⟩ := a.keep b (Nat.lt_of_lt_of_le hb kg.inv.size.1) hnb
      obtain ⟨h3, h4⟩ := kg.inv.keep b hb hO
      exact ⟨h1.trans h3, fun o => (h2 o).trans (h4 o)⟩
    size := kg.inv.size.trans a.size
    os := a.os.trans kg.inv.os
    tape := a.tape.trans kg.inv.tape
    output := a.output.trans kg.inv.output }

/-- The code panics, so begun, with e; dy: the functions that may. -/
inductive Kills (C : Cs) (K : Kd) (U : Nat) (dy : List Nat) : Ac → St → Int → Prop where
  | ops (l1 l2 : List Ao) (o : Ao) (s s' : St) (f : Nat) (e : Int) (h : steps C l1 s = some s') (hw : wanted s' o.g = some true) (hk : o.k = .callf f) (hf : dy.contains f = true)
      (hd : dieCall K o.av o.al s'.bx f (o.xs.map (O.ev s'.tm)) e) : Kills C K U dy (.ops (l1 ++ o :: l2)) s e
  | pan (s : St) (e : Int) : Kills C K U dy (.cond (.c .top) (.ops [⟨some U, .mv, [.c (.d (.int .i64 e))], none, [], none⟩]) .skip) s e
  | seqL (a b : Ac) (s : St) (e : Int) (h : Kills C K U dy a s e) : Kills C K U dy (.seq a b) s e
  | seqR (a b : Ac) (s s' : St) (k : Nat) (e : Int) (h : exec C k a s = some (.nrm, s')) (h2 : Kills C K U dy b s' e) : Kills C K U dy (.seq a b) s e
  | condT (x : O) (a b : Ac) (s : St) (e : Int) (hb : asB (x.ev s.tm) = some true) (h : Kills C K U dy a s e) : Kills C K U dy (.cond x a b) s e
  | condF (x : O) (a b : Ac) (s : St) (e : Int) (hb : asB (x.ev s.tm) = some false) (h : Kills C K U dy b s e) : Kills C K U dy (.cond x a b) s e
  | block (id : Nat) (c : Ac) (s : St) (e : Int) (h : Kills C K U dy c s e) : Kills C K U dy (.block id c) s e
  | loop0 (c : Ac) (s : St) (e : Int) (h : Kills C K U dy c s e) : Kills C K U dy (.loop c) s e
  | loopS (c : Ac) (s s' : St) (k : Nat) (e : Int) (h : exec C k c s = some (.nrm, s')) (h2 : Kills C K U dy (.loop c) s' e) : Kills C K U dy (.loop c) s e

/-- Code whose panics may be told so: where an order is drawn nothing panics. -/
def okD (dy : List Nat) : Code → Bool
  | .region _ ops draw => (!draw || ops.toList.all fun o => match o.op with | .call c => (match c.callee with | .value (.func f) => !dy.contains f | _ => true) | _ => true) && (match (ops[0]? : Option Oper) with | some o => (match o.op with | .makeMap _ _ => false | _ => true) | none => true)
  | .seq a b => okD dy a && okD dy b
  | .cond (.tmp _) a b => okD dy a && okD dy b
  | .cond _ _ _ => false
  | .block _ c => okD dy c
  | .loop c => okD dy c
  | _ => true

/-- no region is split -/
def noSplit : Ac → Bool
  | .seq (.ops _) (.seq (.gh _) (.ops _)) => false
  | .seq a b => noSplit a && noSplit b
  | .cond _ a b => noSplit a && noSplit b
  | .block _ c => noSplit c
  | .loop c => noSplit c
  | _ => true
theorem noSplit_seq {a b : Ac} (h : noSplit (.seq a b) = true) : noSplit a = true ∧ noSplit b = true := by
  unfold noSplit at h
  split at h <;> first | cases h | (rename_i e; cases e) | skip
  all_goals simp_all
theorem wpOps_pre {C : Cs} (hC : ∀ f, Meets mg P f (C f)) {ops : Array Oper} {aos : List Ao} (hr : RegOk mg P N ops aos) (hmg : mg.le m0) {Q : Exit → Act → World → Prop} {r : List Nat} :
    ∀ (l : List Nat) (s s' : St) (a : Act) (w : World), (∀ i ∈ l, i < ops.size) → StOk df mg m0 w0 OO N pa pv s a w → steps C (l.map fun i => aos.getD i default) s = some s' →
      (∀ a w, StOk df mg m0 w0 OO N pa pv s' a w → wpOps P ops Q r a w) → wpOps P ops Q (l ++ r) a w
  | [], s, s', a, w, _, h, hs, hq => by
    simp only [List.map_nil, steps, Option.some.injEq] at hs
    subst hs
    exact hq a w h
  | i :: l, s, s', a, w, hl, h, hs, hq => by
    simp only [List.map_cons, steps, Option.bind_eq_some_iff] at hs
    obtain ⟨s1, h1, h2⟩ := hs
    have hi := hl i (by simp)
    have hi' : i < aos.length := by rw [← hr.size]; exact hi
    have e : aos.getD i default = aos[i] := by simp [hi']
    rw [List.cons_append, wpOps_cons]
    rw [e] at h1
    refine step_wp hC (ao := aos[i]) (by simp [hi]) (hr.fits i ops[i] aos[i] (by simp [hi]) (by simp [hi'])) hmg h1 h fun a w h => ?_
    exact wpOps_pre hC hr hmg l s1 s' a w (fun j hj => hl j (by simp [hj])) h h2 hq

def PanQ (df : List Deferred) (m0 : Mm) (w0 : World) (OO : Nat → Prop) (U : Nat) (e : Int) (Q : Exit → Act → World → Prop) : Prop := ∀ a w m, a.defers = df → Dead m0 w0 OO m w → Q (.panic (chain U e)) a w

theorem region_dies {C : Cs} (hC : ∀ f, Meets mg P f (C f)) {ops : Array Oper} {U : Nat} {l1 l2 : List Ao} {o : Ao} (hr : RegOk mg P N ops (l1 ++ o :: l2)) (hmg : mg.le m0) {Q : Exit → Act → World → Prop} {s s' : St} {f : Nat} {e : Int}
    (h : steps C l1 s = some s') (hw : wanted s' o.g = some true) (hk : o.k = .callf f) (hd : dieCall (DiesOn mg P U) o.av o.al s'.bx f (o.xs.map (O.ev s'.tm)) e) (hQ : PanQ df m0 w0 OO U e Q) {a : Act} {w : World}
    (hst : StOk df mg m0 w0 OO N pa pv s a w) : wpOps P ops Q (List.range ops.size) a w := by
  have hsz := hr.size
  simp only [List.length_append, List.length_cons] at hsz
  have hrange : List.range ops.size = List.range l1.length ++ (l1.length :: List.range' (l1.length + 1) l2.length) := by
    rw [hsz, List.range_eq_range', List.range_eq_range', ← List.range'_append_1, List.range'_succ]
    simp
  rw [hrange]
  have hmap : (List.range l1.length).map (fun i => (l1 ++ o :: l2).getD i default) = l1 := by
    apply List.ext_getElem
    · simp
    · intro i h1 h2
      have h2' : i < l1.length := h2
      simp [List.getElem_append_left, h2', List.getD_eq_getElem?_getD, List.getElem?_append_left h2']
  refine wpOps_pre hC hr hmg (List.range l1.length) s s' a w (fun i hi => by rw [List.mem_range] at hi; omega) hst (by rw [hmap]; exact h) fun a w hst => ?_
  have hi : l1.length < ops.size := by omega
  obtain ⟨op, hop⟩ : ∃ op, ops[l1.length]? = some op := ⟨ops[l1.length], by simp [hi]⟩
  have hfo := hr.fits l1.length op o hop (by simp)
  obtain ⟨g, hinv, ht, hN, hdf, hpa⟩ := hst
  have hwant := wanted_spec (o := op) hfo.g ht rfl hw ht.2
  rw [wpOps_cons]
  unfold wpOp
  simp only [hop, hwant, if_true]
  refine .inl ?_
  have hfop := hfo.op
  obtain ⟨d, k, xs, gg, av, al⟩ := o
  obtain ⟨dst, opp, ty, pos, after, gd⟩ := op
  simp only at hfop hk hd ⊢
  subst hk
  cases hfop with
  | op _ _ _ _ hk => cases hk
  | callf _ f args ats _ hx =>
    have hv : RAl g s'.bx (xs.map (O.ev s'.tm)) (args.map a.eval).toList := by simpa using hx.ral ht
    obtain ⟨⟨fn, hf, hb, hn⟩, hc⟩ := dieCall_spec hinv hmg hv hd
    have he : execOp a.eval ⟨dst, .call { callee := .value (.func f), args, argTypes := ats }, ty, pos, after, gd⟩ = callFunc f (args.map a.eval) := by
      simp only [execOp, resolve, Act.eval, Deferred.ofValue, pure_bind, invoke]
      simp
    unfold Oper.wp
    rw [he, run_callFunc_enter hf hb hn]
    simp only [Oper.upon]
    simp only [Array.toArray_toList] at hc
    refine hc.mono fun en w' hh => ?_
    obtain ⟨m', rfl, hde⟩ := hh
    exact hQ a w' m' hdf hde

/-- rounds until one dies -/
inductive KN (C : Cs) (K : Kd) (U : Nat) (dy : List Nat) (a : Ac) (e : Int) : Nat → St → Prop where
  | zero (s : St) (n : Nat) (h : Kills C K U dy a s e) : KN C K U dy a e (n + 1) s
  | succ (s s' : St) (k n : Nat) (h : exec C k a s = some (.nrm, s')) (h2 : KN C K U dy a e n s') : KN C K U dy a e (n + 1) s

theorem Kills.kn {C : Cs} {K : Kd} {U : Nat} {dy : List Nat} {a : Ac} {e : Int} {s : St} (h : Kills C K U dy (.loop a) s e) : ∃ n, KN C K U dy a e n s := by
  generalize hc : Ac.loop a = c at h
  induction h with
  | loop0 c s e h _ => cases hc; exact ⟨1, .zero s 0 h⟩
  | loopS c s s' k e h _ ih => cases hc; obtain ⟨n, hn⟩ := ih rfl; exact ⟨n + 1, .succ s s' k n h hn⟩
  | _ => cases hc

theorem kill_sound {C : Cs} (hC : ∀ f, Meets mg P f (C f)) (hmg : mg.le m0) {U : Nat} {dy : List Nat} {pb : List Id} (hin : inB.go pb pa = true) {c : Code} {ac : Ac} (hf : FitsA mg P N pb c ac) (hok : okD dy c = true) (hns : noSplit ac = true) :
    ∀ {s : St} {e : Int} {Q : Exit → Act → World → Prop}, Kills C (DiesOn mg P U) U dy ac s e → PanQ df m0 w0 OO U e Q → ∀ a w, StOk df mg m0 w0 OO N pa pv s a w → c.wp P Q a w := by
  induction hf with
  | skip => intro s e Q hs; cases hs
  | region id ops aos hr =>
    intro s e Q hs hq a w h
    cases hs with
    | ops l1 l2 o _ s' f _ h1 hw hk hf hd => exact wp_region (region_dies hC hr hmg h1 hw hk hd hq h)
  | lit id ops aos L hL =>
    intro s e Q hs hq a w h
    exfalso
    obtain ⟨t0, p0, f0, o0⟩ := hL.h0
    simp only [okD, o0, Bool.and_false, Bool.false_eq_true] at hok
  | draw id ops aos pre hm hr hd =>
    intro s e Q hs hq a w h
    exfalso
    cases hs with
    | ops l1 l2 o _ s' f _ h1 hw hk hf hd =>
      simp only [okD, Bool.not_true, Bool.false_or, Bool.and_eq_true, List.all_eq_true] at hok
      have hsz := hr.size
      simp only [List.length_append, List.length_cons] at hsz
      have hi : l1.length < ops.size := by omega
      have hop : ops[l1.length]? = some ops[l1.length] := by simp [hi]
      have hfo := (hr.fits l1.length _ o hop (by simp)).op
      have hx := hok.1 ops[l1.length] (by simp)
      obtain ⟨d, k, xs, gg, av, al⟩ := o
      simp only at hfo hk
      subst hk
      generalize ops[l1.length] = op at hfo hx
      obtain ⟨dst, opp, ty, pos, after, gd⟩ := op
      simp only at hfo hx
      cases hfo with
      | op _ _ _ _ hk => cases hk
      | callf _ f args ats _ hx' =>
        simp only [Bool.not_eq_true'] at hx
        rw [hf] at hx; cases hx
  | keep c a ts bs hb _ ih =>
    intro s e Q hs hq ac w h
    cases hs with
    | seqL _ _ _ _ h1 => cases h1
    | seqR _ _ _ s' k _ h1 h2 =>
      simp only [exec, Option.bind_eq_some_iff] at h1
      obtain ⟨s1, h1, he⟩ := h1
      cases he
      exact ih hok (noSplit_seq hns).2 h2 hq ac w (keepA_sound hb hin h1 h)
  | gh c a l _ ih =>
    intro s e Q hs hq ac w h
    cases hs with
    | seqL _ _ _ _ h1 => cases h1
    | seqR _ _ _ s' k _ h1 h2 =>
      simp only [exec, Option.bind_eq_some_iff] at h1
      obtain ⟨s1, h1, he⟩ := h1
      cases he
      exact ih hok (noSplit_seq hns).2 h2 hq ac w (ghosts_sound l h1 h)
  | ghr c a l _ ih =>
    intro s e Q hs hq ac w h
    cases hs with
    | seqL _ _ _ _ h1 => exact ih hok (noSplit_seq hns).1 h1 hq ac w h
    | seqR _ _ _ s' k _ h1 h2 => cases h2
  | keepr c a l ts bs hb _ ih =>
    intro s e Q hs hq ac w h
    cases hs with
    | seqL _ _ _ _ h1 => exact ih hok (noSplit_seq hns).1 h1 hq ac w h
    | seqR _ _ _ s' k _ h1 h2 =>
      cases h2 with
      | seqL _ _ _ _ h1 => cases h1
      | seqR _ _ _ s' k _ h1 h2 =>
        cases h2 with
        | seqL _ _ _ _ h1 => cases h1
        | seqR _ _ _ s' k _ h1 h2 => cases h2
  | seq c d a b hfa _ ih1 ih2 =>
    intro s e Q hs hq ac w h
    simp only [okD, Bool.and_eq_true] at hok
    cases hs with
    | seqL _ _ _ _ h1 => exact wp_seq (ih1 (Q := Exit.then (d.wp P Q) Q) hok.1 (noSplit_seq hns).1 h1 (fun a w m hd hm => hq a w m hd hm) ac w h)
    | seqR _ _ _ s' k _ h1 h2 => exact wp_seq (exec_sound hC hmg hin hfa h1 (fun a w h => ih2 hok.2 (noSplit_seq hns).2 h2 hq a w h) ac w h)
  | cond x o c d a b hx _ _ ih1 ih2 =>
    intro s e Q hs hq ac w h
    cases x with
    | tmp n =>
      simp only [okD, Bool.and_eq_true] at hok
      simp only [noSplit, Bool.and_eq_true] at hns
      have ev : ∀ {t : Bool}, asB (o.ev s.tm) = some t → ac.eval (.tmp n) = .bool t := by
        intro t ht
        obtain ⟨g, _, htm, _⟩ := h
        have := hx.ra htm
        rw [asB_spec ht] at this
        exact this.bool_inv
      cases hs with
      | pan => cases hx
      | condT _ _ _ _ _ hb h1 => exact wp_cond (t := true) (ev hb) (ih1 hok.1 hns.1 h1 hq ac w h)
      | condF _ _ _ _ _ hb h1 => exact wp_cond (t := false) (ev hb) (ih2 hok.2 hns.2 h1 hq ac w h)
    | _ => simp [okD] at hok
  | block id c a _ ih =>
    intro s e Q hs hq ac w h
    cases hs with
    | block _ _ _ _ h1 => exact wp_block (ih (Q := Exit.inBlock id Q) hok (by simpa [noSplit] using hns) h1 (fun a w m hd hm => hq a w m hd hm) ac w h)
  | loop c a hfa ih =>
    intro s e Q hs hq ac w h
    obtain ⟨n, hn⟩ := hs.kn
    refine wp_loop_n (fun n a' w' => ∃ s', StOk df mg m0 w0 OO N pa pv s' a' w' ∧ KN C (DiesOn mg P U) U dy a e n s') ?_ ?_ n ⟨s, h, hn⟩
    · rintro a' w' ⟨s', _, h⟩
      cases h
    · rintro n a' w' ⟨s', hs', hk⟩
      cases hk with
      | zero _ _ h1 => exact ih (Q := Exit.then (fun a' w' => ∃ s', StOk df mg m0 w0 OO N pa pv s' a' w' ∧ KN C (DiesOn mg P U) U dy a e n s') Q) hok (by simpa [noSplit] using hns) h1 (fun a w m hd hm => hq a w m hd hm) a' w' hs'
      | succ _ s1 k _ h1 h2 => exact exec_sound hC hmg hin hfa h1 (fun a w h => ⟨s1, h, h2⟩) a' w' hs'
  | exit id => intro s e Q hs; cases hs
  | ret => intro s e Q hs; cases hs
  | dead c =>
    intro s e Q hs
    cases hs with
    | condT _ _ _ _ _ hb _ => cases hb
    | condF _ _ _ _ _ hb _ => cases hb
  | split id ops pre post l _ => simp [noSplit] at hns
  | pan id ops U' v hp =>
    intro s e Q hs hq a w h
    cases hs with
    | condT _ _ _ _ _ hb _ => cases hb
    | condF _ _ _ _ _ hb _ => cases hb
    | pan =>
      obtain ⟨d, c, t0, p0, f0, e1, t1, p1, f1, rfl, hd, hc, k, hu⟩ := hp.ok
      obtain ⟨g, hinv, ht, hN, hdf, hpa⟩ := h
      have hcv : c = .int .i64 e := by
        have := (dataD_spec hc (fun _ _ => none)).1
        cases this; rfl
      subst hcv
      refine wp_region ?_
      have hr : List.range (#[(⟨some d, .makeInterface U (.const (.int .i64 e)), t0, p0, f0, none⟩ : Oper), ⟨e1, .panic (.tmp d), t1, p1, f1, none⟩].size) = [0, 1] := rfl
      rw [hr]
      have run0 : (execOp a.eval ⟨some d, .makeInterface U (.const (.int .i64 e)), t0, p0, f0, none⟩).run P w = .ok (.value (.iface U (.int .i64 e))) w := by
        have e0 : a.eval (.const (.int .i64 e)) = .int .i64 e := rfl
        simp [execOp, e0, Instr.makeInterface, run_under hu, Result.andThen, Sem.run_bind]
      refine wpOps_value rfl run0 ?_
      have hv : (a.put (some d) (.iface U (.int .i64 e))).eval (.tmp d) = .iface U (.int .i64 e) := by
        simp [Act.put, Act.eval, Array.getD_eq_getD_getElem?, hN, hd]
      rw [wpOps_cons]
      unfold wpOp
      simp only [List.getElem?_toArray, List.getElem?_cons_succ, List.getElem?_cons_zero, Region.wanted, if_true]
      refine .inl ?_
      unfold Oper.wp
      have run1 : (execOp (a.put (some d) (.iface U (.int .i64 e))).eval ⟨e1, .panic (.tmp d), t1, p1, f1, none⟩).run P w = .halt (.panic (.iface U (.int .i64 e))) w := by
        simp only [execOp, hv]
        rfl
      rw [run1]
      exact hq _ _ g.m (by simp [Act.put, hdf]) hinv.dead

/-! ### running code that may die -/
variable {C : Cs} {KK : Kd} {U : Nat} {dy : List Nat}

def RunsD (C : Cs) (KK : Kd) (U : Nat) (dy : List Nat) (eo : Option Int) (c : Ac) (s : St) (Q : Out × St → Prop) : Prop := (∃ e, eo = some e ∧ Kills C KK U dy c s e) ∨ Runs C c s Q
def KillsAt (C : Cs) (KK : Kd) (dy : List Nat) (l : List Ao) (s : St) (e : Int) : Prop := ∃ l1 o l2 s' f, l = l1 ++ o :: l2 ∧ steps C l1 s = some s' ∧ wanted s' o.g = some true ∧ o.k = .callf f ∧ dy.contains f = true ∧ dieCall KK o.av o.al s'.bx f (o.xs.map (O.ev s'.tm)) e
def RunAtD (C : Cs) (KK : Kd) (dy : List Nat) (eo : Option Int) (L : List Ao) (i : Nat) (s : St) (R : St → Prop) : Prop := (∃ e, eo = some e ∧ KillsAt C KK dy (L.drop i) s e) ∨ RunAt C L i s R
def kSD (C : Cs) (KK : Kd) (U : Nat) (dy : List Nat) (eo : Option Int) (b : Ac) (Q : Out × St → Prop) (p : Out × St) : Prop := match p.1 with | .nrm => RunsD C KK U dy eo b p.2 Q | _ => Q p

section
variable {eo : Option Int} {a b c : Ac} {s s' : St} {Q : Out × St → Prop} {R : St → Prop} {id : Nat}

theorem kSD_nrm (h : RunsD C KK U dy eo b s Q) : kSD C KK U dy eo b Q (.nrm, s) := h
theorem kSD_ret (h : Q (.ret, s)) : kSD C KK U dy eo b Q (.ret, s) := h
theorem kSD_exit {i : Nat} (h : Q (.exit i, s)) : kSD C KK U dy eo b Q (.exit i, s) := h

theorem RunsD.seq (h : RunsD C KK U dy eo a s (kSD C KK U dy eo b Q)) : RunsD C KK U dy eo (.seq a b) s Q := by
  rcases h with ⟨e, he, h⟩ | ⟨⟨o, s1⟩, hq, k0, h1⟩
  · exact .inl ⟨e, he, .seqL _ _ _ _ h⟩
  · cases o with
    | nrm =>
      rcases hq with ⟨e, he, h2⟩ | hq
      · exact .inl ⟨e, he, .seqR _ _ _ _ k0 _ (h1 k0 (Nat.le_refl _)) h2⟩
      · exact .inr (Runs.seq ⟨(.nrm, s1), hq, k0, h1⟩)
    | exit i => exact .inr (Runs.seq ⟨(.exit i, s1), hq, k0, h1⟩)
    | ret => exact .inr (Runs.seq ⟨(.ret, s1), hq, k0, h1⟩)
theorem RunsD.ops {l : List Ao} (h : RunAtD C KK dy eo l 0 s (fun s' => Q (.nrm, s'))) : RunsD C KK U dy eo (.ops l) s Q := by
  rcases h with ⟨e, he, l1, o, l2, s', f, hl, h1, h2, h3, h4, h5⟩ | h
  · rw [List.drop_zero] at hl
    subst hl
    exact .inl ⟨e, he, .ops l1 l2 o s s' f e h1 h2 h3 h4 h5⟩
  · exact .inr (Runs.ops h)
theorem RunsD.cond_t {x : O} (hb : asB (x.ev s.tm) = some true) (h : RunsD C KK U dy eo a s Q) : RunsD C KK U dy eo (.cond x a b) s Q := by
  rcases h with ⟨e, he, h⟩ | h
  · exact .inl ⟨e, he, .condT _ _ _ _ _ hb h⟩
  · exact .inr (Runs.cond_t hb h)
theorem RunsD.cond_f {x : O} (hb : asB (x.ev s.tm) = some false) (h : RunsD C KK U dy eo b s Q) : RunsD C KK U dy eo (.cond x a b) s Q := by
  rcases h with ⟨e, he, h⟩ | h
  · exact .inl ⟨e, he, .condF _ _ _ _ _ hb h⟩
  · exact .inr (Runs.cond_f hb h)
theorem RunsD.block (h : RunsD C KK U dy eo c s (kB id Q)) : RunsD C KK U dy eo (.block id c) s Q := by
  rcases h with ⟨e, he, h⟩ | h
  · exact .inl ⟨e, he, .block _ _ _ _ h⟩
  · exact .inr (Runs.block h)
theorem RunsD.skip (h : Q (.nrm, s)) : RunsD C KK U dy eo .skip s Q := .inr (Runs.skip h)
theorem RunsD.exit {i : Nat} (h : Q (.exit i, s)) : RunsD C KK U dy eo (.exit i) s Q := .inr (Runs.exit h)
theorem RunsD.ret (h : Q (.ret, s)) : RunsD C KK U dy eo .ret s Q := .inr (Runs.ret h)
theorem RunsD.pan {e : Int} : RunsD C KK U dy (some e) (panA U (.int .i64 e)) s Q := .inl ⟨e, rfl, .pan s e⟩
theorem Kills.canon {l : List Gs} {ts : List Nat} {bs : List Id} {e : Int} (hk : Canon l ts bs s s') (h : Kills C KK U dy b s' e) : Kills C KK U dy (.seq (.gh l) (.seq (.keep ts bs) b)) s e := by
  unfold Canon at hk
  simp only [Option.bind_eq_some_iff] at hk
  obtain ⟨s1, h1, h2⟩ := hk
  refine .seqR _ _ _ s1 0 _ (by simp only [exec, h1, Option.bind_some]) (.seqR _ _ _ s' 0 _ (by simp only [exec, h2, Option.bind_some]) h)
theorem RunsD.canon {l : List Gs} {ts : List Nat} {bs : List Id} (s' : St) (hk : Canon l ts bs s s') (h : RunsD C KK U dy eo b s' Q) : RunsD C KK U dy eo (.seq (.gh l) (.seq (.keep ts bs) b)) s Q := by
  rcases h with ⟨e, he, h⟩ | h
  · exact .inl ⟨e, he, .canon hk h⟩
  · exact .inr (Runs.canon s' hk h)

theorem RunAtD.done {L : List Ao} {i : Nat} (hi : L.drop i = []) (h : R s) : RunAtD C KK dy eo L i s R := .inr (RunAt.done hi h)
theorem KillsAt.pre {l m : List Ao} {s s' : St} {e : Int} (h : steps C l s = some s') (k : KillsAt C KK dy m s' e) : KillsAt C KK dy (l ++ m) s e := by
  obtain ⟨l1, o, l2, s2, f, rfl, h1, h2⟩ := k
  refine ⟨l ++ l1, o, l2, s2, f, by simp, ?_, h2⟩
  rw [steps_app, h]; exact h1
theorem RunAtD.chunk {L : List Ao} {i : Nat} (n : Nat) (ws : List W) (h : steps C ((L.drop i).take n) s = some (adv ((L.drop i).take n) ws s))
    (k : RunAtD C KK dy eo L (i + n) (adv ((L.drop i).take n) ws s) R) : RunAtD C KK dy eo L i s R := by
  rcases k with ⟨e, he, k⟩ | k
  · refine .inl ⟨e, he, ?_⟩
    rw [← List.take_append_drop n (L.drop i), List.drop_drop]
    exact .pre h k
  · exact .inr (RunAt.chunk n ws h k)
theorem RunAtD.cut {L : List Ao} {i : Nat} (d : Option Nat) (k : K) (av : List Id) (al : Option (List Id)) (xs : List A) (v : A) (ws : List (Id × Option Box))
    (hk : (L[i]?).map keyO = some (d, k, av, al)) (hg : ((L[i]?).bind fun o => wanted s o.g) = some true) (hx : (L[i]?).map (fun o => o.xs.map (O.ev s.tm)) = some xs)
    (hs : sem C ⟨d, k, [], none, av, al⟩ xs s.bx = some (v, updW s.bx ws)) (kk : RunAtD C KK dy eo L (i + 1) (put' s d v (updW s.bx ws)) R) : RunAtD C KK dy eo L i s R := by
  rcases kk with ⟨e, he, kk⟩ | kk
  · refine .inl ⟨e, he, ?_⟩
    cases ho : L[i]? with
    | none => rw [ho] at hk; cases hk
    | some o =>
      rw [ho] at hk hg hx
      simp only [Option.map_some, Option.some.injEq, keyO, Prod.mk.injEq] at hk
      simp only [Option.map_some, Option.some.injEq] at hx
      simp only [Option.bind_some] at hg
      obtain ⟨rfl, rfl, rfl, rfl⟩ := hk
      obtain ⟨hlt, hel⟩ := List.getElem?_eq_some_iff.1 ho
      rw [List.drop_eq_getElem_cons hlt, hel]
      refine KillsAt.pre (l := [o]) (s' := put' s o.dst v (updW s.bx ws)) ?_ kk
      simp only [steps, step, hg, Option.bind_some, if_true, hx]
      rw [sem_key, hs]; rfl
  · exact .inr (RunAt.cut d k av al xs v ws hk hg hx hs kk)
/-- The call that dies. -/
theorem RunAtD.die {L : List Ao} {i : Nat} {e : Int} (d : Option Nat) (f : Nat) (av : List Id) (al : Option (List Id)) (xs : List A) (ts : List T) (ws : List (Id × Option Box))
    (hk : (L[i]?).map keyO = some (d, .callf f, av, al)) (hg : ((L[i]?).bind fun o => wanted s o.g) = some true) (hx : (L[i]?).map (fun o => o.xs.map (O.ev s.tm)) = some xs) (hf : dy.contains f = true)
    (hl : xs.map (lendX av s.bx) = xs) (hi : lids xs = []) (hp : (apartIds (ptrIds xs) && (ptrIds xs).all (alOk al)) = true) (hgv : gives av al s.bx xs = some (ts, updW s.bx ws)) (hd : KK f ts e) : RunAtD C KK dy (some e) L i s R := by
  refine .inl ⟨e, rfl, ?_⟩
  cases ho : L[i]? with
  | none => rw [ho] at hk; cases hk
  | some o =>
    rw [ho] at hk hg hx
    simp only [Option.map_some, Option.some.injEq, keyO, Prod.mk.injEq] at hk
    simp only [Option.map_some, Option.some.injEq] at hx
    simp only [Option.bind_some] at hg
    obtain ⟨rfl, hkk, rfl, rfl⟩ := hk
    obtain ⟨hlt, hel⟩ := List.getElem?_eq_some_iff.1 ho
    rw [List.drop_eq_getElem_cons hlt, hel]
    refine ⟨[], o, L.drop (i + 1), s, f, rfl, rfl, hg, hkk, hf, ?_⟩
    rw [hx]
    exact ⟨ts, _, by rw [hl]; exact hp, by rw [hl, hi, List.nil_append]; exact hgv, hd⟩

/-! ### short names -/
theorem RcD {L : List Ao} {i : Nat} (n : Nat) (ws : List W) (k : RunAtD C KK dy eo L (i + n) (adv ((L.drop i).take n) ws s) R)
    (h : steps C ((L.drop i).take n) s = some (adv ((L.drop i).take n) ws s) := by kernel_rfl) : RunAtD C KK dy eo L i s R := RunAtD.chunk n ws h k
theorem RdD {L : List Ao} {i : Nat} (h : R s) (hi : L.drop i = [] := by kernel_rfl) : RunAtD C KK dy eo L i s R := RunAtD.done hi h
theorem RkD {L : List Ao} {i : Nat} (h : RunsD C KK U dy eo b s Q) (hi : L.drop i = [] := by kernel_rfl) : RunAtD C KK dy eo L i s (fun s' => kSD C KK U dy eo b Q (.nrm, s')) := RunAtD.done hi h
theorem RtD {L : List Ao} {i : Nat} (d : Option Nat) (k : K) (av : List Id) (al : Option (List Id)) (xs : List A) (v : A) (ws : List (Id × Option Box))
    (hs : sem C ⟨d, k, [], none, av, al⟩ xs s.bx = some (v, updW s.bx ws)) (kk : RunAtD C KK dy eo L (i + 1) (put' s d v (updW s.bx ws)) R)
    (hk : (L[i]?).map keyO = some (d, k, av, al) := by kernel_rfl) (hg : ((L[i]?).bind fun o => wanted s o.g) = some true := by kernel_rfl) (hx : (L[i]?).map (fun o => o.xs.map (O.ev s.tm)) = some xs := by kernel_rfl) : RunAtD C KK dy eo L i s R :=
  RunAtD.cut d k av al xs v ws hk hg hx hs kk
theorem CtD {x : O} (h : RunsD C KK U dy eo a s Q) (hb : asB (x.ev s.tm) = some true := by kernel_rfl) : RunsD C KK U dy eo (.cond x a b) s Q := RunsD.cond_t hb h
theorem CfD {x : O} (h : RunsD C KK U dy eo b s Q) (hb : asB (x.ev s.tm) = some false := by kernel_rfl) : RunsD C KK U dy eo (.cond x a b) s Q := RunsD.cond_f hb h
abbrev SqD := @RunsD.seq
abbrev RoD := @RunsD.ops
theorem Dz {L : List Ao} {i : Nat} {e : Int} (d : Option Nat) (f : Nat) (av : List Id) (al : Option (List Id)) (xs : List A) {ts : List T} (hd : KK f ts e)
    (hk : (L[i]?).map keyO = some (d, .callf f, av, al) := by kernel_rfl) (hg : ((L[i]?).bind fun o => wanted s o.g) = some true := by kernel_rfl) (hx : (L[i]?).map (fun o => o.xs.map (O.ev s.tm)) = some xs := by kernel_rfl) (hf : dy.contains f = true := by kernel_rfl)
    (hl : xs.map (lendX av s.bx) = xs := by kernel_rfl) (hi : lids xs = [] := by kernel_rfl) (hp : (apartIds (ptrIds xs) && (ptrIds xs).all (alOk al)) = true := by kernel_rfl) (hgv : gives av al s.bx xs = some (ts, updW s.bx []) := by kernel_rfl) : RunAtD C KK dy (some e) L i s R :=
  RunAtD.die d f av al xs ts [] hk hg hx hf hl hi hp hgv hd

/-! ### loops -/
def lpE {α : Type} : Lp α Int → Option Int
  | .next _ => none
  | .out e => some e
def LQD {α γ : Type} (l : List Gs) (ts : List Nat) (bs : List Id) (hd : α → γ → St) (r : Lp α Int) (p : Out × St) : Prop :=
  match r with
  | .next x => p.1 = .nrm ∧ ∃ g, Canon l ts bs p.2 (hd x g)
  | .out _ => False

theorem RunsD.loop {α γ : Type} {l : List Gs} {ts : List Nat} {bs : List Id} (body : α → Option (Lp α Int)) (hd : α → γ → St)
    (hstep : ∀ x g r, body x = some r → RunsD C KK U dy (lpE r) b (hd x g) (LQD l ts bs hd r)) {x : α} (g : γ) {e : Int} (h : loopO body x = some e) (hk : Canon l ts bs s (hd x g)) :
    RunsD C KK U dy (some e) (.loop (.seq (.gh l) (.seq (.keep ts bs) b))) s Q := by
  obtain ⟨n, hn⟩ := loopO_iff.1 h
  refine .inl ⟨e, rfl, ?_⟩
  clear h
  induction n generalizing x g s with
  | zero => simp [loopN] at hn
  | succ n ih =>
    simp only [loopN, Option.bind_eq_some_iff] at hn
    obtain ⟨r, h1, h2⟩ := hn
    rcases hstep x g r h1 with ⟨e', he, hkill⟩ | ⟨⟨o, s1⟩, hq, k0, he⟩
    · cases r with
      | next y => cases he
      | out e1 =>
        cases he
        simp only [Option.some.injEq] at h2; subst h2
        exact .loop0 _ _ _ (.canon hk hkill)
    · cases r with
      | out e1 => exact hq.elim
      | next y =>
        simp only [LQD] at hq
        obtain ⟨rfl, g', hg'⟩ := hq
        refine .loopS _ _ s1 k0 _ ?_ (ih (x := y) g' hg' h2)
        unfold Canon at hk
        simp only [Option.bind_eq_some_iff] at hk
        obtain ⟨s2, h3, h4⟩ := hk
        simp only [exec, h3, h4, Option.bind_some]
        exact he k0 (Nat.le_refl _)

def orD (o : Option Int) (k : Option Int) : Option Int := match o with | some e => some e | none => k
theorem orD_s {o k : Option Int} {e : Int} (h : orD o k = some e) : o = some e ∨ k = some e := by
  cases o with
  | some x => exact .inl h
  | none => exact .inr h
def orL {α : Type} (o : Option Int) (k : Option (Lp α Int)) : Option (Lp α Int) := match o with | some e => some (.out e) | none => k
theorem orL_s {α : Type} {o : Option Int} {k : Option (Lp α Int)} {r : Lp α Int} (h : orL o k = some r) : (∃ e, o = some e ∧ r = .out e) ∨ k = some r := by
  cases o with
  | some x => exact .inl ⟨x, rfl, (Option.some.inj h).symm⟩
  | none => exact .inr h
end

def okF (P : Program) (dy : List Nat) (f : Nat) : Bool := match P.funcs[f]? with
  | some fn => match fn.body with | some c => okD dy c | none => false
  | none => false

theorem dies_fn (hC : ∀ f, Meets mg P f (C f)) {f : Nat} {F : Fn} (hf : FnOk mg P f F) {args : List T} {aa : List A} {bx0 : Bx} {e : Int} (hok : okF P dy f = true) (hl : args.length = F.np)
    (ht : takesP (fun _ => none) 0 args = some (aa, bx0)) (hin : inB.go F.pb aa = true) (hns : noSplit F.body = true) (h : RunsD C (DiesOn mg P U) U dy (some e) F.body ⟨tmOf aa 0, bx0⟩ (fun _ => False)) : DiesOn mg P U f args e := by
  intro m w vs bs hmg hc hr hn ho
  obtain ⟨fn, c, h1, h2, h3, h4, h5, h6⟩ := hf.fn
  refine ⟨⟨fn, h1, by rw [h2]; rfl, h3⟩, calls_of_wp h1 h2 ?_⟩
  obtain ⟨g, hi, hv⟩ := enter_spec hc hr hn ho ht
  have hvl : vs.length = F.np := by rw [← hr.length, hl]
  have hst : StOk [] mg m w (· ∈ bs) fn.ntmps aa vs ⟨tmOf aa 0, bx0⟩ { tmps := vs.toArray ++ Array.replicate (fn.ntmps - vs.toArray.size) undef, defers := [] } w := by
    refine ⟨g, hi, ⟨fun b o v h => hi.mle _ _ _ (hmg _ _ _ h), fun t => ?_⟩, by simp; omega, rfl, hv⟩
    have := tmOf_spec (j := 0) (n := t) hv (Nat.zero_le _)
    have e : (vs.toArray ++ Array.replicate (fn.ntmps - vs.toArray.size) undef).getD t undef = vs.getD (t - 0) undef := by
      rw [Array.getD_eq_getD_getElem?, Array.getElem?_append, List.getD_eq_getElem?_getD]
      simp only [List.size_toArray, Nat.sub_zero, List.getElem?_toArray]
      split
      · rfl
      · rename_i hlt
        rw [List.getElem?_eq_none (by omega)]
        by_cases h : t - vs.length < fn.ntmps - vs.length
        · simp [h]
        · simp [h]
    rw [e]; exact this
  have hok' : okD dy c = true := by
    unfold okF at hok
    rw [h1] at hok
    simp only [h2] at hok
    exact hok
  rcases h with ⟨e', he, hk⟩ | ⟨p, hq, _⟩
  · cases he
    exact kill_sound (df := []) (m0 := m) (w0 := w) (OO := (· ∈ bs)) hC hmg hin h5 hok' hns hk (fun a w' m' hd hde => ⟨hd, m', rfl, hde⟩) _ _ hst
  · exact hq.elim

end Go.Es

