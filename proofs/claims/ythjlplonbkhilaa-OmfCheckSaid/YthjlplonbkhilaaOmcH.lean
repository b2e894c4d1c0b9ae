/- What the functions answer, in plain Lean. No condition. -/
import Derived.Test.YthjlplonbkhilaaOmcP
import Derived.KernelRfl
set_option linter.unusedVariables false
set_option linter.unusedSimpArgs false
set_option maxHeartbeats 4000000
set_option maxRecDepth 100000
namespace Go.Es.Omc
/-! that something is answered, and of what kind -/
def Tot {α : Type} (o : Option α) (Q : α → Prop) : Prop := ∃ r, o = some r ∧ Q r
theorem Tot.bind {α β : Type} {o : Option α} {f : α → Option β} {P : α → Prop} {Q : β → Prop} (h : Tot o P) (k : ∀ x, P x → Tot (f x) Q) : Tot (o.bind f) Q := by
  obtain ⟨x, hx, hp⟩ := h
  rw [hx, Option.bind_some]; exact k x hp
theorem Tot.ite {α : Type} {c : Prop} [Decidable c] {a b : Option α} {Q : α → Prop} (h1 : c → Tot a Q) (h2 : ¬ c → Tot b Q) : Tot (if c then a else b) Q := by
  by_cases h : c
  · rw [if_pos h]; exact h1 h
  · rw [if_neg h]; exact h2 h
theorem Tot.ret {α : Type} {r : α} {Q : α → Prop} (h : Q r) : Tot (some r) Q := ⟨r, rfl, h⟩
theorem Tot.mono {α : Type} {o : Option α} {P Q : α → Prop} (h : Tot o P) (k : ∀ x, P x → Q x) : Tot o Q := by
  obtain ⟨x, hx, hp⟩ := h; exact ⟨x, hx, k x hp⟩
theorem Tot.idx {α : Type} {l : List α} {i : Int} (h : 0 ≤ i ∧ i < (l.length : Int)) : Tot (idx l i) (fun x => x ∈ l) := ⟨_, idx_eq h.1 h.2, List.getElem_mem _⟩
theorem Tot.grow {α : Type} {b : Nat} {l m : List α} (h1 : (l.length + m.length) * b ≤ 2 ^ 40) (h2 : l.length + m.length ≤ 2 ^ 40) : Tot (grow b l m) (fun r => r = l ++ m) := ⟨_, grow_eq h1 h2, rfl⟩
/-- a loop's round: on with I and a lesser m, or out with Q -/
def Rnd {σ β : Type} (I : σ → Prop) (m : Nat) (μ : σ → Nat) (Q : β → Prop) : Lp σ β → Prop
  | .next y => I y ∧ μ y < m
  | .out b => Q b
theorem Tot.loop {σ β : Type} {f : σ → Option (Lp σ β)} (I : σ → Prop) (μ : σ → Nat) (Q : β → Prop) (h : ∀ x, I x → Tot (f x) (Rnd I (μ x) μ Q)) {x : σ} (hx : I x) : Tot (loopO f x) Q := by
  refine loop_rule I μ Q (fun x hI => ?_) hx
  obtain ⟨r, hr, hq⟩ := h x hI
  cases r with
  | next y => exact .inl ⟨y, hr, hq⟩
  | out b => exact .inr ⟨b, hr, hq⟩
theorem and_m (x : Int) (j : Nat) (hj : j ≤ 62) {m : Int} (hm : m = ((2 ^ j - 1 : Nat) : Int)) : 0 ≤ bitsOp .and .i64 x m ∧ bitsOp .and .i64 x m < ((2 ^ j : Nat) : Int) := by
  subst hm
  rw [and_mask x j hj]
  have : 0 < 2 ^ j := Nat.two_pow_pos j
  exact ⟨Int.emod_nonneg _ (by omega), Int.emod_lt_of_pos _ (by omega)⟩
theorem a255 (x : Int) : 0 ≤ bitsOp .and .i64 x 255 ∧ bitsOp .and .i64 x 255 < 256 := and_m x 8 (by omega) rfl
theorem a63 (x : Int) : 0 ≤ bitsOp .and .i64 x 63 ∧ bitsOp .and .i64 x 63 < 64 := and_m x 6 (by omega) rfl
theorem a3 (x : Int) : 0 ≤ bitsOp .and .i64 x 3 ∧ bitsOp .and .i64 x 3 < 4 := and_m x 2 (by omega) rfl
theorem a65535 (x : Int) : 0 ≤ bitsOp .and .i64 x 65535 ∧ bitsOp .and .i64 x 65535 < 65536 := and_m x 16 (by omega) rfl
theorem Tot.rem {k : IntKind} {x y : Int} (hx : 0 ≤ x) (hy : 0 < y) : Tot (remI k x y) (fun z => 0 ≤ z ∧ z < y) := by
  refine ⟨x % y, ?_, Int.emod_nonneg _ (by omega), Int.emod_lt_of_pos _ hy⟩
  unfold remI
  rw [if_neg (by omega), Int.tmod_eq_emod_of_nonneg hx]
/-! a small module -/
def SegOk (n : Int) (s : SegDef) : Prop := (1 ≤ s.Align ∧ s.Align ≤ 4) ∧ (s.Combine = 0 ∨ s.Combine = 2 ∨ s.Combine = 5 ∨ s.Combine = 6) ∧ s.Frame = 0 ∧ s.Offset = 0 ∧ (8 ≤ s.Len ∧ s.Len ≤ 71) ∧ (0 ≤ s.Name ∧ s.Name ≤ n) ∧ (0 ≤ s.Class ∧ s.Class ≤ n) ∧ s.Overlay = 1
def GrpOk (n s : Int) (g : GrpDef) : Prop := (1 ≤ g.Name ∧ g.Name ≤ n) ∧ (∀ x ∈ g.Segs, 1 ≤ x ∧ x ≤ s) ∧ g.Segs.length ≤ 3
def PubOk (g s : Int) (p : Pub) : Prop := (0 ≤ p.Group ∧ p.Group ≤ g) ∧ (0 ≤ p.Seg ∧ p.Seg ≤ s)
def size (l : Int) : Int := if l = 0 then 1 else if l = 4 then 1 else if l = 3 then 4 else 2
theorem size_spec (l : Int) : hansomref25_Size l = some (size l) := by
  unfold hansomref25_Size size
  simp only [beq_iff_eq]
  split <;> first | rfl | (split <;> first | rfl | (split <;> rfl))
theorem size_spec' (l : Int) : fixup_Size l = some (size l) := size_spec l
theorem size_lo (l : Int) : 1 ≤ size l ∧ size l ≤ 4 := by unfold size; split <;> (try split) <;> (try split) <;> omega
def at3 (a : A3 Int) (i : Int) : Int := if i = 0 then a.a0 else if i = 1 then a.a1 else a.a2
theorem at3_spec (a : A3 Int) {i : Int} (h : 0 ≤ i ∧ i < 3) : idx a.l i = some (at3 a i) := by
  have : i = 0 ∨ i = 1 ∨ i = 2 := by omega
  rcases this with rfl | rfl | rfl <;> rfl
def ManyOk (a : A3 Int) : Prop := (1 ≤ a.a0 ∧ a.a0 ≤ 100) ∧ (0 ≤ a.a1 ∧ a.a1 ≤ 100) ∧ (0 ≤ a.a2 ∧ a.a2 ≤ 100)
theorem at3_lo {a : A3 Int} (h : ManyOk a) (i : Int) : 0 ≤ at3 a i ∧ at3 a i ≤ 100 := by
  obtain ⟨h0, h1, h2⟩ := h
  unfold at3; split
  · omega
  · split <;> omega
def FixOk (a : A3 Int) (n : Int) (f : Fixup) : Prop := (0 ≤ f.Loc ∧ f.Loc ≤ 4) ∧ (0 ≤ f.At ∧ f.At < 1024 ∧ f.At ≤ n - size f.Loc) ∧ (f.Self = true → f.Loc < 2) ∧ (0 ≤ f.Target ∧ f.Target < 3) ∧ (1 ≤ f.N ∧ f.N ≤ at3 a f.Target) ∧
  (((0 ≤ f.Frame ∧ f.Frame < 3) ∧ 1 ≤ f.FrameN ∧ f.FrameN ≤ at3 a f.Frame) ∨ ((f.Frame = 4 ∨ f.Frame = 5) ∧ f.FrameN = 0))
def DataOk (segs : List SegDef) (a : A3 Int) (d : Data) : Prop := (1 ≤ d.Seg ∧ d.Seg ≤ (segs.length : Int)) ∧ (∀ s, idx segs (d.Seg - 1) = some s → d.Off + (d.Bytes.length : Int) ≤ s.Len) ∧ (0 ≤ d.Off ∧ d.Off ≤ 65535) ∧ (4 ≤ d.Bytes.length ∧ d.Bytes.length ≤ 100) ∧ (∀ f ∈ d.Fixups, FixOk a (d.Bytes.length : Int) f) ∧ d.Fixups.length ≤ 3
def manyOf (x : Module) : A3 Int := { a0 := (x.Segs.length : Int), a1 := (x.Groups.length : Int), a2 := (x.Exts.length : Int) }
structure ModOk (x : Module) : Prop where
  names : 1 ≤ x.Names.length ∧ x.Names.length ≤ 5
  segs : 1 ≤ x.Segs.length ∧ x.Segs.length ≤ 4
  groups : x.Groups.length ≤ 2
  exts : x.Exts.length ≤ 3
  pubs : x.Pubs.length ≤ 3
  datas : x.Datas.length ≤ 4
  seg : ∀ s ∈ x.Segs, SegOk (x.Names.length : Int) s
  grp : ∀ g ∈ x.Groups, GrpOk (x.Names.length : Int) (x.Segs.length : Int) g
  pub : ∀ p ∈ x.Pubs, PubOk (x.Groups.length : Int) (x.Segs.length : Int) p
  data : ∀ d ∈ x.Datas, DataOk x.Segs (manyOf x) d
theorem cut_tot (s : List UInt8) : Tot (hansomref26_cut s) (fun _ => True) := by
  unfold hansomref26_cut
  have : 0 ≤ mnI (s.length : Int) 12 ∧ mnI (s.length : Int) 12 ≤ (s.length : Int) := by rw [mnI_eq]; omega
  rw [cutL_eq (by omega) this.1 this.2]
  exact ⟨_, rfl, trivial⟩
theorem tm5 (a : Int) (h : 0 ≤ a) : 0 ≤ Int.tmod a 5 ∧ Int.tmod a 5 < 5 := ⟨Int.tmod_nonneg _ h, Int.tmod_lt_of_pos _ (by omega)⟩
theorem tm3 (a : Int) (h : 0 ≤ a) : 0 ≤ Int.tmod a 3 ∧ Int.tmod a 3 < 3 := ⟨Int.tmod_nonneg _ h, Int.tmod_lt_of_pos _ (by omega)⟩
/-- a fixup but for its frame's and its target's numbers -/
def Fix1 (a : A3 Int) (n : Int) (x : Fixup) : Prop := (0 ≤ x.Loc ∧ x.Loc ≤ 4) ∧ (0 ≤ x.At ∧ x.At < 1024 ∧ x.At ≤ n - size x.Loc) ∧ (x.Self = true → x.Loc < 2) ∧ (0 ≤ x.Target ∧ x.Target < 3) ∧ x.FrameN = 0 ∧ at3 a x.Target ≠ 0
theorem j33_tot {a : A3 Int} (ha : ManyOk a) {n : Int} (f x : Fixup) (hx : Fix1 a n x) (hf : ((0 ≤ x.Frame ∧ x.Frame < 3) ∧ at3 a x.Frame ≠ 0) ∨ x.Frame = 4 ∨ x.Frame = 5) : Tot (hansomref25_Near_j33 f a x) (FixOk a n) := by
  obtain ⟨h1, h2, h3, h4, h5, h6⟩ := hx
  have l1 := at3_lo ha x.Target
  unfold hansomref25_Near_j33
  rw [at3_spec a h4, Option.bind_some]
  refine Tot.bind (Tot.rem (a255 _).1 (by omega)) fun z hz => ?_
  have e1 : IntKind.wrap .i64 (z + 1) = z + 1 := wrap64 (by omega) (by omega)
  rw [e1]
  refine Tot.ite (fun hlt => ?_) fun hge => ?_
  · rw [decide_eq_true_eq] at hlt
    have hf' : (0 ≤ x.Frame ∧ x.Frame < 3) ∧ at3 a x.Frame ≠ 0 := by
      rcases hf with hf | hf | hf
      · exact hf
      · omega
      · omega
    have l2 := at3_lo ha x.Frame
    rw [at3_spec a hf'.1, Option.bind_some]
    refine Tot.bind (Tot.rem (a255 _).1 (by omega)) fun y hy => ?_
    have e2 : IntKind.wrap .i64 (y + 1) = y + 1 := wrap64 (by omega) (by omega)
    rw [e2]
    exact Tot.ret ⟨h1, h2, h3, h4, ⟨by show 1 ≤ z + 1; omega, by show z + 1 ≤ at3 a x.Target; omega⟩, .inl ⟨hf'.1, by show 1 ≤ y + 1; omega, by show y + 1 ≤ at3 a x.Frame; omega⟩⟩
  · simp only [decide_eq_true_eq] at hge
    refine Tot.ret ⟨h1, h2, h3, h4, ⟨by show 1 ≤ z + 1; omega, by show z + 1 ≤ at3 a x.Target; omega⟩, .inr ⟨?_, h5⟩⟩
    show x.Frame = 4 ∨ x.Frame = 5
    omega
theorem j27_tot {a : A3 Int} (ha : ManyOk a) {n : Int} (f x : Fixup) (hx : Fix1 a n x) (hf : (0 ≤ x.Frame ∧ x.Frame < 3) ∨ x.Frame = 4 ∨ x.Frame = 5) : Tot (hansomref25_Near_j27 f a x) (FixOk a n) := by
  unfold hansomref25_Near_j27
  refine Tot.ite (fun hlt => ?_) fun hge => ?_
  · rw [decide_eq_true_eq] at hlt
    have hf' : 0 ≤ x.Frame ∧ x.Frame < 3 := by omega
    rw [at3_spec a hf', Option.bind_some]
    refine Tot.ite (fun h0 => ?_) fun h0 => ?_
    · exact j33_tot ha f _ hx (.inr (.inr rfl))
    · rw [beq_iff_eq] at h0
      exact j33_tot ha f _ hx (.inl ⟨hf', h0⟩)
  · simp only [decide_eq_true_eq] at hge
    exact j33_tot ha f _ hx (.inr (by omega))
theorem j6_tot {a : A3 Int} (ha : ManyOk a) {n : Int} (hn : 4 ≤ n ∧ n ≤ 1000) (f x : Fixup) (hl : 0 ≤ x.Loc ∧ x.Loc ≤ 4) (hs : x.Self = true → x.Loc < 2) (hN : x.FrameN = 0) : Tot (hansomref25_Near_j6 f a x n) (FixOk a n) := by
  unfold hansomref25_Near_j6
  rw [size_spec, Option.bind_some]
  have l1 := size_lo x.Loc
  have e1 : IntKind.wrap .i64 ((IntKind.wrap .i64 (n - size x.Loc)) + 1) = n - size x.Loc + 1 := by
    rw [wrap64 (n := n - size x.Loc) (by omega) (by omega), wrap64 (by omega) (by omega)]
  rw [e1, mnI_eq]
  refine Tot.bind (Tot.rem (a65535 _).1 (by omega)) fun z hz => ?_
  have hfr := tm5 _ (a255 f.Frame).1
  have htg := tm3 _ (a255 f.Target).1
  refine Tot.bind (P := fun y => Fix1 a n y ∧ 0 ≤ y.Frame ∧ y.Frame < 5) (Tot.loop (fun y : Fixup => ((0 ≤ y.Loc ∧ y.Loc ≤ 4) ∧ (0 ≤ y.At ∧ y.At < 1024 ∧ y.At ≤ n - size y.Loc) ∧ (y.Self = true → y.Loc < 2) ∧ (0 ≤ y.Target ∧ y.Target < 3) ∧ y.FrameN = 0) ∧ 0 ≤ y.Frame ∧ y.Frame < 5) (fun y => (if y.Target = 0 then 0 else if y.Target = 1 then 2 else 1)) _ (fun y hy => ?_) ⟨⟨hl, ⟨hz.1, by show z < 1024; omega, by show z ≤ n - size x.Loc; omega⟩, hs, htg, hN⟩, hfr⟩) fun y hy => ?_
  · obtain ⟨⟨q1, q2, q3, q4, q5⟩, q6⟩ := hy
    unfold hansomref25_Near_l12
    rw [at3_spec a q4, Option.bind_some]
    refine Tot.ite (fun h0 => ?_) fun h0 => ?_
    · rw [beq_iff_eq] at h0
      have ht : y.Target = 1 ∨ y.Target = 2 := by
        have : y.Target ≠ 0 := fun h => by
          have := ha.1
          rw [h] at h0; unfold at3 at h0; simp at h0; omega
        omega
      refine Tot.ret ?_
      rcases ht with ht | ht
      · have e : Int.tmod (IntKind.wrap .i64 (y.Target + 1)) 3 = 2 := by rw [ht]; decide
        rw [e]
        exact ⟨⟨⟨q1, q2, q3, ⟨by show (0 : Int) ≤ 2; omega, by show (2 : Int) < 3; omega⟩, q5⟩, q6⟩, by simp [ht]⟩
      · have e : Int.tmod (IntKind.wrap .i64 (y.Target + 1)) 3 = 0 := by rw [ht]; decide
        rw [e]
        exact ⟨⟨⟨q1, q2, q3, ⟨by show (0 : Int) ≤ 0; omega, by show (0 : Int) < 3; omega⟩, q5⟩, q6⟩, by simp [ht]⟩
    · rw [beq_iff_eq] at h0
      exact Tot.ret ⟨⟨q1, q2, q3, q4, q5, h0⟩, q6⟩
  · obtain ⟨h1, h2⟩ := hy
    refine Tot.ite (fun h3 => ?_) fun h3 => ?_
    · exact j27_tot ha f _ h1 (.inr (.inr rfl))
    · rw [beq_iff_eq] at h3
      refine j27_tot ha f _ h1 ?_
      omega
theorem fixNear {a : A3 Int} (ha : ManyOk a) {n : Int} (hn : 4 ≤ n ∧ n ≤ 1000) (f : Fixup) : Tot (hansomref25_Near f n a) (FixOk a n) := by
  unfold hansomref25_Near
  have h5 := tm5 _ (a255 f.Loc).1
  have h54 : Int.tmod (bitsOp .and .i64 f.Loc 255) 5 ≤ 4 := by omega
  refine Tot.ite (fun h => ?_) fun h => ?_
  · refine j6_tot ha hn _ _ ⟨h5.1, h54⟩ (fun h => ?_) rfl
    exact of_decide_eq_true h
  · exact j6_tot ha hn _ _ ⟨h5.1, h54⟩ (fun h => by cases h) rfl
def Keep1 (x y : Module) : Prop := y.Segs = x.Segs ∧ y.Groups = x.Groups ∧ y.Exts = x.Exts ∧ y.Pubs = x.Pubs ∧ y.Datas = x.Datas
theorem w1 {k : Nat} (h : k ≤ 100000) : IntKind.wrap .i64 ((k : Int) + 1) = ((k + 1 : Nat) : Int) := by rw [wrap64 (by omega) (by omega)]; omega
theorem base10 (m : Module) (x0 : Module) (h0 : x0.Names.length = 1 ∧ x0.Segs = [] ∧ x0.Groups = [] ∧ x0.Exts = [] ∧ x0.Pubs = [] ∧ x0.Datas = [] ∧ x0.Notes = []) :
    Tot (loopO (fun x : (Module × Int) => hansomref26_base_l10 m x.1 x.2) (x0, 0)) (fun y => (1 ≤ y.Names.length ∧ y.Names.length ≤ 5) ∧ y.Segs = [] ∧ y.Groups = [] ∧ y.Exts = [] ∧ y.Pubs = [] ∧ y.Datas = [] ∧ y.Notes = []) := by
  refine Tot.loop (fun x : Module × Int => ∃ k : Nat, x.2 = (k : Int) ∧ k ≤ 4 ∧ x.1.Names.length = k + 1 ∧ x.1.Segs = [] ∧ x.1.Groups = [] ∧ x.1.Exts = [] ∧ x.1.Pubs = [] ∧ x.1.Datas = [] ∧ x.1.Notes = []) (fun x => 5 - x.2.toNat) _ (fun x hx => ?_) ⟨0, rfl, by omega, h0⟩
  obtain ⟨y, i⟩ := x
  obtain ⟨k, hk, hk4, hn, hr⟩ := hx
  simp only at hk hn hr ⊢
  subst hk
  unfold hansomref26_base_l10
  refine Tot.ite (fun h1 => Tot.ite (fun h2 => ?_) fun _ => Tot.ret ⟨by omega, hr⟩) fun _ => Tot.ret ⟨by omega, hr⟩
  rw [decide_eq_true_eq] at h1 h2
  refine Tot.bind (Tot.idx ⟨by omega, h1⟩) fun z _ => Tot.bind (cut_tot z) fun r _ => Tot.bind (Tot.grow (by simp; omega) (by simp; omega)) fun q hq => ?_
  subst hq
  rw [w1 (by omega)]
  exact Tot.ret ⟨⟨k + 1, rfl, by omega, by simp [hn], hr⟩, by simp only [Int.toNat_natCast]; omega⟩
theorem base27 (m : Module) (n : Int) (x0 : Module) (h0 : x0.Segs = [] ∧ x0.Groups = [] ∧ x0.Exts = [] ∧ x0.Pubs = [] ∧ x0.Datas = []) (hN : x0.Notes = []) :
    Tot (loopO (fun x : (Module × Int) => hansomref26_base_l27 m x.1 n x.2) (x0, 0)) (fun y => y.Names = x0.Names ∧ y.Segs = [] ∧ y.Groups = [] ∧ y.Exts = [] ∧ y.Pubs = [] ∧ y.Datas = []) := by
  refine Tot.loop (fun x : Module × Int => ∃ k : Nat, x.2 = (k : Int) ∧ k ≤ 2 ∧ x.1.Notes.length = k ∧ x.1.Names = x0.Names ∧ x.1.Segs = [] ∧ x.1.Groups = [] ∧ x.1.Exts = [] ∧ x.1.Pubs = [] ∧ x.1.Datas = []) (fun x => 5 - x.2.toNat) _ (fun x hx => ?_) ⟨0, rfl, by omega, by rw [hN]; rfl, rfl, h0⟩
  obtain ⟨y, i⟩ := x
  obtain ⟨k, hk, hk4, hn, hr⟩ := hx
  simp only at hk hn hr ⊢
  subst hk
  unfold hansomref26_base_l27
  refine Tot.ite (fun h1 => Tot.ite (fun h2 => ?_) fun _ => Tot.ret hr) fun _ => Tot.ret hr
  rw [decide_eq_true_eq] at h1 h2
  refine Tot.bind (Tot.idx ⟨by omega, h1⟩) fun z _ => Tot.bind (cut_tot _) fun r _ => Tot.bind (Tot.grow (by simp; omega) (by simp; omega)) fun q hq => ?_
  subst hq
  rw [w1 (by omega)]
  exact Tot.ret ⟨⟨k + 1, rfl, by omega, by simp [hn], hr⟩, by simp only [Int.toNat_natCast]; omega⟩
def B46 (x0 y : Module) : Prop := y.Names = x0.Names ∧ (∀ s ∈ y.Segs, SegOk (x0.Names.length : Int) s) ∧ y.Groups = [] ∧ y.Exts = [] ∧ y.Pubs = [] ∧ y.Datas = []
theorem base63 (m x0 y : Module) (s8 : SegDef) (k : Nat) (hk : k ≤ 3) (hy : B46 x0 y) (hl : y.Segs.length = k) (hn : 1 ≤ x0.Names.length ∧ x0.Names.length ≤ 5) :
    Tot (hansomref26_base_j63 m y s8 (x0.Names.length : Int) (k : Int)) (fun r => ∃ y', r = .next (y', ((k + 1 : Nat) : Int)) ∧ B46 x0 y' ∧ y'.Segs.length = k + 1) := by
  unfold hansomref26_base_j63
  have c3 := a3 s8.Combine
  refine Tot.bind (P := fun z => z = 0 ∨ z = 2 ∨ z = 5 ∨ z = 6) ?_ fun z hz => ?_
  · have h : bitsOp .and .i64 s8.Combine 3 = 0 ∨ bitsOp .and .i64 s8.Combine 3 = 1 ∨ bitsOp .and .i64 s8.Combine 3 = 2 ∨ bitsOp .and .i64 s8.Combine 3 = 3 := by omega
    rcases h with h | h | h | h <;> rw [h] <;> exact ⟨_, rfl, by decide⟩
  have e1 : IntKind.wrap .i64 ((x0.Names.length : Int) + 1) = (x0.Names.length : Int) + 1 := wrap64 (by omega) (by omega)
  rw [e1]
  refine Tot.bind (Tot.rem (a255 _).1 (by omega)) fun z1 h1 => Tot.bind (Tot.rem (a255 _).1 (by omega)) fun z2 h2 => Tot.bind (Tot.grow (by simp; omega) (by simp; omega)) fun q hq => ?_
  subst hq
  have f3 := a3 s8.Align; have f63 := a63 s8.Len
  have e2 : IntKind.wrap .i64 (bitsOp .and .i64 s8.Align 3 + 1) = bitsOp .and .i64 s8.Align 3 + 1 := wrap64 (by omega) (by omega)
  have e3 : IntKind.wrap .i64 (bitsOp .and .i64 s8.Len 63 + 8) = bitsOp .and .i64 s8.Len 63 + 8 := wrap64 (by omega) (by omega)
  rw [e2, e3, w1 (by omega)]
  refine Tot.ret ⟨_, rfl, ⟨hy.1, fun s hs => ?_, hy.2.2⟩, by simp [hl]⟩
  rcases List.mem_append.1 hs with hs | hs
  · exact hy.2.1 s hs
  · simp only [List.mem_singleton] at hs
    subst hs
    unfold SegOk
    simp only
    exact ⟨by omega, hz, trivial, trivial, by omega, by omega, by omega, trivial⟩
theorem base53 (m x0 y : Module) (k : Nat) (hk : k ≤ 3) (hy : B46 x0 y) (hl : y.Segs.length = k) (hn : 1 ≤ x0.Names.length ∧ x0.Names.length ≤ 5) :
    Tot (hansomref26_base_j53 m y (x0.Names.length : Int) (k : Int)) (fun r => ∃ y', r = .next (y', ((k + 1 : Nat) : Int)) ∧ B46 x0 y' ∧ y'.Segs.length = k + 1) := by
  unfold hansomref26_base_j53
  refine Tot.ite (fun h1 => ?_) fun h1 => base63 m x0 y _ k hk hy hl hn
  rw [decide_eq_true_eq] at h1
  exact Tot.bind (Tot.idx ⟨by omega, h1⟩) fun z _ => base63 m x0 y _ k hk hy hl hn
theorem base46 (m x0 : Module) (hn : 1 ≤ x0.Names.length ∧ x0.Names.length ≤ 5) (h0 : B46 x0 x0) (hs : x0.Segs = []) :
    Tot (loopO (fun x : (Module × Int) => hansomref26_base_l46 m x.1 (x0.Names.length : Int) x.2) (x0, 0)) (fun y => B46 x0 y ∧ 1 ≤ y.Segs.length ∧ y.Segs.length ≤ 4) := by
  refine Tot.loop (fun x : Module × Int => ∃ k : Nat, x.2 = (k : Int) ∧ k ≤ 4 ∧ x.1.Segs.length = k ∧ B46 x0 x.1) (fun x => 5 - x.2.toNat) _ (fun x hx => ?_) ⟨0, rfl, by omega, by rw [hs]; rfl, h0⟩
  obtain ⟨y, i⟩ := x
  obtain ⟨k, hk, hk4, hl, hr⟩ := hx
  simp only at hk hl hr ⊢
  subst hk
  have step : k ≤ 3 → Tot (hansomref26_base_j53 m y (x0.Names.length : Int) (k : Int)) (Rnd (fun x : Module × Int => ∃ k : Nat, x.2 = (k : Int) ∧ k ≤ 4 ∧ x.1.Segs.length = k ∧ B46 x0 x.1) (5 - (k : Int).toNat) (fun x => 5 - x.2.toNat) (fun y => B46 x0 y ∧ 1 ≤ y.Segs.length ∧ y.Segs.length ≤ 4)) := fun hk3 => by
    refine Tot.mono (base53 m x0 y k hk3 hr hl hn) ?_
    rintro r ⟨y', rfl, h1, h2⟩
    exact ⟨⟨k + 1, rfl, by omega, h2, h1⟩, by simp only [Int.toNat_natCast]; omega⟩
  unfold hansomref26_base_l46
  refine Tot.ite (fun h1 => ?_) fun h1 => ?_
  · rw [beq_iff_eq] at h1
    exact step (by omega)
  · simp only [beq_iff_eq] at h1
    refine Tot.ite (fun h2 => Tot.ite (fun h3 => ?_) fun h3 => ?_) fun h2 => ?_
    · rw [decide_eq_true_eq] at h3
      exact step (by omega)
    · exact Tot.ret ⟨hr, by omega, by omega⟩
    · exact Tot.ret ⟨hr, by omega, by omega⟩
theorem base84 (m x2 : Module) (g : GrpDef) (n : Int) (i : Nat) (hi : i < m.Groups.length) (hs : 1 ≤ x2.Segs.length ∧ x2.Segs.length ≤ 4) (hg : 1 ≤ g.Name ∧ g.Name ≤ n) (hg0 : g.Segs = []) :
    Tot (loopO (fun x : (GrpDef × Int) => hansomref26_base_l84 m x2 x.1 n (i : Int) x.2) (g, 0)) (GrpOk n (x2.Segs.length : Int)) := by
  refine Tot.loop (fun x : GrpDef × Int => ∃ k : Nat, x.2 = (k : Int) ∧ k ≤ 3 ∧ x.1.Segs.length = k ∧ GrpOk n (x2.Segs.length : Int) x.1) (fun x => 5 - x.2.toNat) _ (fun x hx => ?_) ⟨0, rfl, by omega, by rw [hg0]; rfl, hg, (fun x hx => by rw [hg0] at hx; cases hx), by rw [hg0]; simp⟩
  obtain ⟨y, j⟩ := x
  obtain ⟨k, hk, hk4, hl, hr⟩ := hx
  simp only at hk hl hr ⊢
  subst hk
  unfold hansomref26_base_l84
  rw [idx_nat hi, Option.bind_some]
  refine Tot.ite (fun h1 => Tot.ite (fun h2 => ?_) fun _ => Tot.ret hr) fun _ => Tot.ret hr
  rw [decide_eq_true_eq] at h1 h2
  rw [Option.bind_some]
  refine Tot.bind (Tot.idx ⟨by omega, h1⟩) fun z _ => Tot.bind (Tot.rem (a255 _).1 (by omega)) fun w hw => Tot.bind (Tot.grow (by simp; omega) (by simp; omega)) fun q hq => ?_
  subst hq
  have e1 : IntKind.wrap .i64 (w + 1) = w + 1 := wrap64 (by omega) (by omega)
  rw [e1, w1 (by omega)]
  refine Tot.ret ⟨⟨k + 1, rfl, by omega, by simp [hl], hr.1, fun x hx => ?_, by simp [hl]; omega⟩, by simp only [Int.toNat_natCast]; omega⟩
  rcases List.mem_append.1 hx with hx | hx
  · exact hr.2.1 x hx
  · simp only [List.mem_singleton] at hx
    subst hx; omega
def B69 (x0 y : Module) : Prop := y.Names = x0.Names ∧ y.Segs = x0.Segs ∧ (∀ g ∈ y.Groups, GrpOk (x0.Names.length : Int) (x0.Segs.length : Int) g) ∧ y.Exts = [] ∧ y.Pubs = [] ∧ y.Datas = []
theorem base69 (m x0 : Module) (hn : 1 ≤ x0.Names.length ∧ x0.Names.length ≤ 5) (hs : 1 ≤ x0.Segs.length ∧ x0.Segs.length ≤ 4) (h0 : B69 x0 x0) (hg : x0.Groups = []) :
    Tot (loopO (fun x : (Module × Int) => hansomref26_base_l69 m x.1 (x0.Names.length : Int) x.2) (x0, 0)) (fun y => B69 x0 y ∧ y.Groups.length ≤ 2) := by
  refine Tot.loop (fun x : Module × Int => ∃ k : Nat, x.2 = (k : Int) ∧ k ≤ 2 ∧ x.1.Groups.length = k ∧ B69 x0 x.1) (fun x => 5 - x.2.toNat) _ (fun x hx => ?_) ⟨0, rfl, by omega, by rw [hg]; rfl, h0⟩
  obtain ⟨y, i⟩ := x
  obtain ⟨k, hk, hk4, hl, hr⟩ := hx
  simp only at hk hl hr ⊢
  subst hk
  unfold hansomref26_base_l69
  refine Tot.ite (fun h1 => Tot.ite (fun h2 => ?_) fun _ => Tot.ret ⟨hr, by omega⟩) fun _ => Tot.ret ⟨hr, by omega⟩
  rw [decide_eq_true_eq] at h1 h2
  refine Tot.bind (Tot.idx ⟨by omega, h1⟩) fun z _ => Tot.bind (Tot.rem (a255 _).1 (by omega)) fun w hw => ?_
  have e1 : IntKind.wrap .i64 (w + 1) = w + 1 := wrap64 (by omega) (by omega)
  rw [e1]
  refine Tot.bind (base84 m y _ (x0.Names.length : Int) k (by omega) (by rw [hr.2.1]; exact hs) ⟨by show 1 ≤ w + 1; omega, by show w + 1 ≤ _; omega⟩ rfl) fun g hg => Tot.bind (Tot.grow (by simp; omega) (by simp; omega)) fun q hq => ?_
  subst hq
  rw [w1 (by omega)]
  refine Tot.ret ⟨⟨k + 1, rfl, by omega, by simp [hl], hr.1, hr.2.1, fun x hx => ?_, hr.2.2.2⟩, by simp only [Int.toNat_natCast]; omega⟩
  rcases List.mem_append.1 hx with hx | hx
  · exact hr.2.2.1 x hx
  · simp only [List.mem_singleton] at hx
    subst hx; rw [← hr.2.1]; exact hg
/-- names, segments and groups -/
structure BaseOk (x : Module) : Prop where
  names : 1 ≤ x.Names.length ∧ x.Names.length ≤ 5
  segs : 1 ≤ x.Segs.length ∧ x.Segs.length ≤ 4
  groups : x.Groups.length ≤ 2
  seg : ∀ s ∈ x.Segs, SegOk (x.Names.length : Int) s
  grp : ∀ g ∈ x.Groups, GrpOk (x.Names.length : Int) (x.Segs.length : Int) g
theorem base_tot (m : Module) : Tot (hansomref26_base m) (fun y => BaseOk y ∧ y.Exts = [] ∧ y.Pubs = [] ∧ y.Datas = []) := by
  unfold hansomref26_base
  refine Tot.bind (cut_tot _) fun r _ => ?_
  refine Tot.bind (base10 m _ ⟨rfl, rfl, rfl, rfl, rfl, rfl, rfl⟩) fun y1 h1 => ?_
  obtain ⟨n1, s1, g1, e1, p1, d1, t1⟩ := h1
  refine Tot.bind (base27 m _ y1 ⟨s1, g1, e1, p1, d1⟩ t1) fun y2 h2 => ?_
  obtain ⟨n2, s2, g2, e2, p2, d2⟩ := h2
  rw [← n2] at n1 ⊢
  refine Tot.bind (base46 m y2 n1 ⟨rfl, (by rw [s2]; intro s hs; cases hs), g2, e2, p2, d2⟩ s2) fun y3 h3 => ?_
  obtain ⟨⟨n3, s3, g3, e3, p3, d3⟩, q3⟩ := h3
  rw [← n3] at n1 s3 ⊢
  refine Tot.bind (base69 m y3 n1 q3 ⟨rfl, rfl, (by rw [g3]; intro s hs; cases hs), e3, p3, d3⟩ g3) fun y4 h4 => ?_
  obtain ⟨⟨n4, s4, g4, e4, p4, d4⟩, q4⟩ := h4
  refine Tot.ret ⟨⟨by rw [n4]; exact n1, by rw [s4]; exact q3, q4, ?_, ?_⟩, e4, p4, d4⟩
  · rw [n4, s4]; exact s3
  · rw [n4, s4]; exact g4
theorem m1023 (x : Int) : True := trivial
def E8 (x0 y : Module) : Prop := y.Names = x0.Names ∧ y.Segs = x0.Segs ∧ y.Groups = x0.Groups ∧ y.Pubs = [] ∧ y.Datas = []
theorem near8 (m x0 : Module) (h0 : E8 x0 x0) (he : x0.Exts = []) : Tot (loopO (fun x : (Module × Int) => hansomref26_Near_l8 m x.1 x.2) (x0, 0)) (fun y => E8 x0 y ∧ y.Exts.length ≤ 3) := by
  refine Tot.loop (fun x : Module × Int => ∃ k : Nat, x.2 = (k : Int) ∧ k ≤ 3 ∧ x.1.Exts.length = k ∧ E8 x0 x.1) (fun x => 5 - x.2.toNat) _ (fun x hx => ?_) ⟨0, rfl, by omega, by rw [he]; rfl, h0⟩
  obtain ⟨y, i⟩ := x
  obtain ⟨k, hk, hk4, hl, hr⟩ := hx
  simp only at hk hl hr ⊢
  subst hk
  unfold hansomref26_Near_l8
  refine Tot.ite (fun h1 => Tot.ite (fun h2 => ?_) fun _ => Tot.ret ⟨hr, by omega⟩) fun _ => Tot.ret ⟨hr, by omega⟩
  rw [decide_eq_true_eq] at h1 h2
  refine Tot.bind (Tot.idx ⟨by omega, h1⟩) fun z _ => Tot.bind (cut_tot _) fun r _ => Tot.bind (Tot.idx ⟨by omega, h1⟩) fun z2 _ => Tot.ite (fun _ => Tot.bind (Tot.idx ⟨by omega, h1⟩) fun z3 _ => Tot.bind (Tot.idx ⟨by omega, h1⟩) fun z4 _ => Tot.bind (Tot.grow (by simp; omega) (by simp; omega)) fun q hq => ?_) fun _ => Tot.bind (Tot.grow (by simp; omega) (by simp; omega)) fun q hq => ?_
  all_goals
    subst hq
    rw [w1 (by omega)]
    exact Tot.ret ⟨⟨k + 1, rfl, by omega, by simp [hl], hr⟩, by simp only [Int.toNat_natCast]; omega⟩
def E31 (x0 y : Module) : Prop := y.Names = x0.Names ∧ y.Segs = x0.Segs ∧ y.Groups = x0.Groups ∧ y.Exts = x0.Exts ∧ (∀ p ∈ y.Pubs, PubOk (x0.Groups.length : Int) (x0.Segs.length : Int) p) ∧ y.Datas = []
theorem near31 (m x0 : Module) (hb : BaseOk x0) (h0 : E31 x0 x0) (he : x0.Pubs = []) : Tot (loopO (fun x : (Module × Int) => hansomref26_Near_l31 m x.1 x.2) (x0, 0)) (fun y => E31 x0 y ∧ y.Pubs.length ≤ 3) := by
  have b1 := hb.segs; have b2 := hb.groups
  refine Tot.loop (fun x : Module × Int => ∃ k : Nat, x.2 = (k : Int) ∧ k ≤ 3 ∧ x.1.Pubs.length = k ∧ E31 x0 x.1) (fun x => 5 - x.2.toNat) _ (fun x hx => ?_) ⟨0, rfl, by omega, by rw [he]; rfl, h0⟩
  obtain ⟨y, i⟩ := x
  obtain ⟨k, hk, hk4, hl, hr⟩ := hx
  simp only at hk hl hr ⊢
  subst hk
  unfold hansomref26_Near_l31
  rw [hr.2.1, hr.2.2.1]
  have e1 : IntKind.wrap .i64 ((x0.Groups.length : Int) + 1) = (x0.Groups.length : Int) + 1 := wrap64 (by omega) (by omega)
  have e2 : IntKind.wrap .i64 ((x0.Segs.length : Int) + 1) = (x0.Segs.length : Int) + 1 := wrap64 (by omega) (by omega)
  rw [e1, e2]
  refine Tot.ite (fun h1 => Tot.ite (fun h2 => ?_) fun _ => Tot.ret ⟨hr, by omega⟩) fun _ => Tot.ret ⟨hr, by omega⟩
  rw [decide_eq_true_eq] at h1 h2
  refine Tot.bind (Tot.idx ⟨by omega, h1⟩) fun z _ => Tot.bind (Tot.rem (a255 _).1 (by omega)) fun u hu => Tot.bind (Tot.rem (a255 _).1 (by omega)) fun v hv => Tot.bind (cut_tot _) fun r _ => Tot.ite (fun _ => Tot.bind (Tot.grow (by simp; omega) (by simp; omega)) fun q hq => ?_) fun _ => Tot.bind (Tot.grow (by simp; omega) (by simp; omega)) fun q hq => ?_
  all_goals
    subst hq
    rw [w1 (by omega)]
    refine Tot.ret ⟨⟨k + 1, rfl, by omega, by simp [hl], hr.1, by first | exact hr.2.1 | rfl, by first | exact hr.2.2.1 | rfl, hr.2.2.2.1, fun p hp => ?_, hr.2.2.2.2.2⟩, by simp only [Int.toNat_natCast]; omega⟩
    rcases List.mem_append.1 hp with hp | hp
    · exact hr.2.2.2.2.1 p hp
    · simp only [List.mem_singleton] at hp
      subst hp
      unfold PubOk
      simp only
      omega
theorem near81 (m x2 : Module) (a : A3 Int) (ha : ManyOk a) (d y0 : Data) (i : Int) (hy : y0.Fixups = []) (hl : 4 ≤ y0.Bytes.length ∧ y0.Bytes.length ≤ 100) :
    Tot (loopO (fun x : (Data × Int) => hansomref26_Near_l81 m x2 a d x.1 i x.2) (y0, 0)) (fun y => y.Seg = y0.Seg ∧ y.Off = y0.Off ∧ y.Bytes = y0.Bytes ∧ (∀ f ∈ y.Fixups, FixOk a (y0.Bytes.length : Int) f) ∧ y.Fixups.length ≤ 3) := by
  refine Tot.loop (fun x : Data × Int => ∃ k : Nat, x.2 = (k : Int) ∧ k ≤ 3 ∧ x.1.Fixups.length = k ∧ x.1.Seg = y0.Seg ∧ x.1.Off = y0.Off ∧ x.1.Bytes = y0.Bytes ∧ (∀ f ∈ x.1.Fixups, FixOk a (y0.Bytes.length : Int) f)) (fun x => 5 - x.2.toNat) _ (fun x hx => ?_) ⟨0, rfl, by omega, by rw [hy]; rfl, rfl, rfl, rfl, (by rw [hy]; intro f hf; cases hf)⟩
  obtain ⟨y, j⟩ := x
  obtain ⟨k, hk, hk4, hn, q1, q2, q3, q4⟩ := hx
  simp only at hk hn q1 q2 q3 q4 ⊢
  subst hk
  unfold hansomref26_Near_l81
  refine Tot.ite (fun h1 => Tot.ite (fun h2 => ?_) fun _ => Tot.ret ⟨q1, q2, q3, q4, by omega⟩) fun _ => Tot.ret ⟨q1, q2, q3, q4, by omega⟩
  rw [decide_eq_true_eq] at h1 h2
  rw [q3]
  refine Tot.bind (Tot.idx ⟨by omega, h1⟩) fun z _ => Tot.bind (fixNear ha (by omega) z) fun f hf => Tot.bind (Tot.grow (by simp; omega) (by simp; omega)) fun q hq => ?_
  subst hq
  rw [w1 (by omega)]
  refine Tot.ret ⟨⟨k + 1, rfl, by omega, by simp [hn], q1, q2, by first | exact q3 | rfl, fun g hg => ?_⟩, by simp only [Int.toNat_natCast]; omega⟩
  rcases List.mem_append.1 hg with hg | hg
  · exact q4 g hg
  · simp only [List.mem_singleton] at hg
    subst hg; exact hf
def E58 (x0 y : Module) : Prop := y.Names = x0.Names ∧ y.Segs = x0.Segs ∧ y.Groups = x0.Groups ∧ y.Exts = x0.Exts ∧ y.Pubs = x0.Pubs ∧ (∀ d ∈ y.Datas, DataOk x0.Segs (manyOf x0) d)
theorem many_ok {x0 : Module} (hb : BaseOk x0) (he : x0.Exts.length ≤ 3) : ManyOk (manyOf x0) := by
  have b1 := hb.segs; have b2 := hb.groups
  unfold ManyOk manyOf
  simp only
  omega
theorem near58 (m x0 : Module) (hw : Module.wf m) (hb : BaseOk x0) (hx : x0.Exts.length ≤ 3) (h0 : E58 x0 x0) (he : x0.Datas = []) :
    Tot (loopO (fun x : (Module × Int) => hansomref26_Near_l58 m x.1 (manyOf x0) x.2) (x0, 0)) (fun y => E58 x0 y ∧ y.Datas.length ≤ 4) := by
  have b1 := hb.segs
  have ha := many_ok hb hx
  refine Tot.loop (fun x : Module × Int => ∃ k : Nat, x.2 = (k : Int) ∧ k ≤ 4 ∧ x.1.Datas.length = k ∧ E58 x0 x.1) (fun x => 5 - x.2.toNat) _ (fun x hx => ?_) ⟨0, rfl, by omega, by rw [he]; rfl, h0⟩
  obtain ⟨y, i⟩ := x
  obtain ⟨k, hk, hk4, hl, hr⟩ := hx
  simp only at hk hl hr ⊢
  subst hk
  unfold hansomref26_Near_l58
  rw [hr.2.1]
  refine Tot.ite (fun h1 => Tot.ite (fun h2 => ?_) fun _ => Tot.ret ⟨hr, by omega⟩) fun _ => Tot.ret ⟨hr, by omega⟩
  rw [decide_eq_true_eq] at h1 h2
  refine Tot.bind (Tot.idx ⟨by omega, h1⟩) fun z hz => Tot.bind (Tot.rem (a255 _).1 (by omega)) fun u hu => ?_
  have hzw : Data.wf z := hw.2.2.2.2.2.2.2.1.2 z hz
  have hoff := wfI_u16.1 hzw.2.1
  have e1 : IntKind.wrap .i64 (u + 1) = u + 1 := wrap64 (by omega) (by omega)
  have e2 : IntKind.wrap .i64 (u + 1 - 1) = u := by rw [wrap64 (by omega) (by omega)]; omega
  rw [e1, e2]
  obtain ⟨s, hs1, hs2⟩ : ∃ s, idx x0.Segs u = some s ∧ s ∈ x0.Segs := ⟨_, idx_eq hu.1 hu.2, List.getElem_mem _⟩
  have hsk := hb.seg s hs2
  obtain ⟨_, _, _, _, hlen, _⟩ := hsk
  rw [hs1, Option.bind_some]
  have e3 : IntKind.wrap .i64 (s.Len - 4) = s.Len - 4 := wrap64 (by omega) (by omega)
  have e4 : IntKind.wrap .u16 (s.Len - 4) = s.Len - 4 := wrapu16 (by omega) (by omega)
  rw [e3, e4]
  refine Tot.bind (Tot.rem hoff.1 (by omega)) fun v hv => ?_
  have e5 : IntKind.wrap .i64 v = v := wrap64 (by omega) (by omega)
  have e6 : IntKind.wrap .i64 (s.Len - 4 - v) = s.Len - 4 - v := wrap64 (by omega) (by omega)
  rw [e5, e6]
  have hm : 0 ≤ mnI (z.Bytes.length : Int) (s.Len - 4 - v) ∧ mnI (z.Bytes.length : Int) (s.Len - 4 - v) ≤ (z.Bytes.length : Int) ∧ mnI (z.Bytes.length : Int) (s.Len - 4 - v) ≤ s.Len - 4 - v := by rw [mnI_eq]; omega
  rw [cutL_eq (by omega) hm.1 hm.2.1, Option.bind_some]
  have hc : (((z.Bytes.drop (0 : Int).toNat).take ((mnI (z.Bytes.length : Int) (s.Len - 4 - v)).toNat - (0 : Int).toNat)).length : Int) ≤ s.Len - 4 - v := by
    rw [List.length_take]; omega
  generalize (z.Bytes.drop (0 : Int).toNat).take ((mnI (z.Bytes.length : Int) (s.Len - 4 - v)).toNat - (0 : Int).toNat) = c at hc
  refine Tot.bind (Tot.grow (by simp; omega) (by simp; omega)) fun q hq => ?_
  have hql : q.length = 4 + c.length := by rw [hq]; simp; omega
  refine Tot.bind (near81 m y (manyOf x0) ha z _ (k : Int) rfl (by show 4 ≤ q.length ∧ q.length ≤ 100; omega)) fun d hd => Tot.bind (Tot.grow (by simp; omega) (by simp; omega)) fun q2 hq2 => ?_
  subst hq2
  obtain ⟨d1, d2, d3, d4, d5⟩ := hd
  simp only at d1 d2 d3 d4
  rw [w1 (by omega)]
  refine Tot.ret ⟨⟨k + 1, rfl, by omega, by simp [hl], hr.1, by first | exact hr.2.1 | rfl, hr.2.2.1, hr.2.2.2.1, hr.2.2.2.2.1, fun g hg => ?_⟩, by simp only [Int.toNat_natCast]; omega⟩
  rcases List.mem_append.1 hg with hg | hg
  · exact hr.2.2.2.2.2 g hg
  · simp only [List.mem_singleton] at hg
    subst hg
    unfold DataOk
    rw [d1, d2, d3]
    refine ⟨by omega, fun s' hs' => ?_, by omega, by omega, d4, d5⟩
    have : u + 1 - 1 = u := by omega
    rw [this, hs1] at hs'
    cases hs'
    omega
theorem near_ok (m : Module) (hw : Module.wf m) : Tot (hansomref26_Near m) ModOk := by
  unfold hansomref26_Near
  refine Tot.bind (base_tot m) fun y0 h0 => ?_
  obtain ⟨hb, he, hp, hd⟩ := h0
  refine Tot.bind (near8 m y0 ⟨rfl, rfl, rfl, hp, hd⟩ he) fun y1 h1 => ?_
  obtain ⟨⟨n1, s1, g1, p1, d1⟩, q1⟩ := h1
  have hb1 : BaseOk y1 := ⟨by rw [n1]; exact hb.names, by rw [s1]; exact hb.segs, by rw [g1]; exact hb.groups, by rw [n1, s1]; exact hb.seg, by rw [n1, s1, g1]; exact hb.grp⟩
  refine Tot.bind (near31 m y1 hb1 ⟨rfl, rfl, rfl, rfl, (by rw [p1]; intro p hp; cases hp), d1⟩ p1) fun y2 h2 => ?_
  obtain ⟨⟨n2, s2, g2, x2, p2, d2⟩, q2⟩ := h2
  have hb2 : BaseOk y2 := ⟨by rw [n2]; exact hb1.names, by rw [s2]; exact hb1.segs, by rw [g2]; exact hb1.groups, by rw [n2, s2]; exact hb1.seg, by rw [n2, s2, g2]; exact hb1.grp⟩
  have hx2 : y2.Exts.length ≤ 3 := by rw [x2]; exact q1
  refine Tot.bind (near58 m y2 hw hb2 hx2 ⟨rfl, rfl, rfl, rfl, rfl, (by rw [d2]; intro p hp; cases hp)⟩ d2) fun y3 h3 => ?_
  obtain ⟨⟨n3, s3, g3, x3, p3, d3⟩, q3⟩ := h3
  have fin : ∀ z : Module, z.Names = y3.Names → z.Segs = y3.Segs → z.Groups = y3.Groups → z.Exts = y3.Exts → z.Pubs = y3.Pubs → z.Datas = y3.Datas → ModOk z := by
    intro z e1 e2 e3 e4 e5 e6
    refine ⟨?_, ?_, ?_, ?_, ?_, ?_, ?_, ?_, ?_, ?_⟩
    · rw [e1, n3]; exact hb2.names
    · rw [e2, s3]; exact hb2.segs
    · rw [e3, g3]; exact hb2.groups
    · rw [e4, x3]; exact hx2
    · rw [e5, p3]; exact q2
    · rw [e6]; exact q3
    · rw [e1, e2, n3, s3]; exact hb2.seg
    · rw [e1, e2, e3, n3, s3, g3]; exact hb2.grp
    · rw [e2, e3, e5, s3, g3, p3, s2, g2]; exact p2
    · have : manyOf z = manyOf y2 := by unfold manyOf; rw [e2, e3, e4, s3, g3, x3]
      rw [this, e2, e6, s3]; exact d3
  refine Tot.ite (fun _ => ?_) fun _ => Tot.ret (fin _ rfl rfl rfl rfl rfl rfl)
  refine Tot.bind (fixNear (many_ok hb2 hx2) (by omega) _) fun f _ => ?_
  exact Tot.ite (fun _ => Tot.ret (fin _ rfl rfl rfl rfl rfl rfl)) fun _ => Tot.ret (fin _ rfl rfl rfl rfl rfl rfl)
theorem run_to {β : Type} {f : Int → Option (Lp Int β)} : ∀ n : Nat, (∀ i : Nat, i < n → f (i : Int) = some (.next ((i + 1 : Nat) : Int))) → loopO f 0 = loopO f (n : Int)
  | 0, _ => rfl
  | n + 1, h => by
    rw [run_to n (fun i hi => h i (by omega)), loopO_eq, h n (by omega)]
    rfl
theorem run_all {β : Type} {f : Int → Option (Lp Int (β ⊕ Unit))} (n : Nat) (h : ∀ i : Nat, i < n → f (i : Int) = some (.next ((i + 1 : Nat) : Int))) (h2 : f (n : Int) = some (.out (.inr ()))) : loopO f 0 = some (.inr ()) := by
  rw [run_to n h, loopO_eq, h2]; rfl
theorem run_bad {β : Type} {f : Int → Option (Lp Int (β ⊕ Unit))} (n : Nat) (e : β) (h : ∀ i : Nat, i < n → f (i : Int) = some (.next ((i + 1 : Nat) : Int))) (h2 : f (n : Int) = some (.out (.inl e))) : loopO f 0 = some (.inl e) := by
  rw [run_to n h, loopO_eq, h2]; rfl
theorem dT {p : Prop} [Decidable p] (h : p) : decide p = true := decide_eq_true h
theorem dF {p : Prop} [Decidable p] (h : ¬ p) : decide p = false := decide_eq_false h
theorem named_t {m : Module} {n : Int} (h : 0 ≤ n ∧ n ≤ (m.Names.length : Int)) : omf_named m n = some true := by
  unfold omf_named; rw [dT h.1, if_pos rfl, dT h.2]
theorem named_f {m : Module} {n : Int} (h : (m.Names.length : Int) < n) : omf_named m n = some false := by
  unfold omf_named; rw [dT (by omega : n ≥ 0), if_pos rfl, dF (by omega)]
theorem in_t {n k : Int} (h : 1 ≤ n ∧ n ≤ k) : omf_in n k = some true := by
  unfold omf_in; rw [dT (by omega : n ≥ 1), if_pos rfl, dT h.2]
theorem in_f {n k : Int} (h : n < 1 ∨ k < n) : omf_in n k = some false := by
  unfold omf_in
  by_cases h1 : n ≥ 1
  · rw [dT h1, if_pos rfl, dF (by omega)]
  · rw [dF h1]; rfl
theorem seg_may (s : SegDef) (hA : 0 ≤ s.Align ∧ s.Align ≤ 4) (hL : 0 ≤ s.Len ∧ s.Len ≤ 65536) (hC : s.Combine = 0 ∨ s.Combine = 2 ∨ s.Combine = 5 ∨ s.Combine = 6) (hF : s.Frame = 0) (hO : s.Offset = 0)
    (h1 : 0 ≤ s.Name ∧ s.Name ≤ 32767) (h2 : 0 ≤ s.Class ∧ s.Class ≤ 32767) (h3 : 0 ≤ s.Overlay ∧ s.Overlay ≤ 32767) : segs_May s = some true := by
  have r30 : ∀ (v : Int) (i : Nat), i < 3 → idx ({ a0 := s.Name, a1 := s.Class, a2 := s.Overlay } : A3 Int).l (i : Int) = some v → 0 ≤ v ∧ v ≤ 32767 → segs_May_l30 ({ a0 := s.Name, a1 := s.Class, a2 := s.Overlay } : A3 Int) (i : Int) = some (.next ((i + 1 : Nat) : Int)) := by
    intro v i hi hv hb
    unfold segs_May_l30
    rw [dT (by omega : (i : Int) < 3), if_pos rfl, hv, Option.bind_some, dF (by omega : ¬ v < 0), if_neg (by simp), dF (by omega : ¬ v > 32767), if_neg (by simp), w1 (by omega)]
  have j26 : segs_May_j26 s = some true := by
    unfold segs_May_j26
    rw [show loopO (fun x : Int => segs_May_l30 ({ a0 := s.Name, a1 := s.Class, a2 := s.Overlay } : A3 Int) x) 0 = some (.inr ()) from run_all 3 (fun i hi => by
      match i, hi with
      | 0, _ => exact r30 s.Name 0 (by omega) rfl h1
      | 1, _ => exact r30 s.Class 1 (by omega) rfl h2
      | 2, _ => exact r30 s.Overlay 2 (by omega) rfl h3) rfl]
    rfl
  have j18 : segs_May_j18 s = some true := by
    unfold segs_May_j18
    simp [hF, hO, j26]
  unfold segs_May
  rw [dF (by omega : ¬ s.Align < 0), if_neg (by simp), dF (by omega : ¬ s.Align > 4), if_neg (by simp), dF (by omega : ¬ s.Len < 0), if_neg (by simp), dF (by omega : ¬ s.Len > 65536), if_neg (by simp)]
  rcases hC with h | h | h | h <;> simp [h, j18]
/-- the first stage: segments -/
theorem seg_next {m : Module} (hn : 1 ≤ m.Names.length ∧ m.Names.length ≤ 5) {i : Nat} {s : SegDef} (hi : idx m.Segs (i : Int) = some s) (hl : i < m.Segs.length) (hil : i < 1000) (hs : SegOk (m.Names.length : Int) s) :
    omf_Check_l14 m m.Segs (m.Segs.length : Int) (i : Int) = some (.next ((i + 1 : Nat) : Int)) := by
  obtain ⟨a1, a2, a3, a4, a5, a6, a7, a8⟩ := hs
  unfold omf_Check_l14
  rw [dT (by omega : (i : Int) < (m.Segs.length : Int)), if_pos rfl, hi, Option.bind_some, seg_may s (by omega) (by omega) a2 a3 a4 (by omega) (by omega) (by omega), Option.bind_some, named_t a6, named_t a7, named_t (n := s.Overlay) (by omega), w1 (by omega)]
  rfl
theorem mem_idx {α : Type} {l : List α} {i : Nat} (h : i < l.length) : ∃ x, idx l (i : Int) = some x ∧ x ∈ l := ⟨_, idx_nat h, List.getElem_mem h⟩
theorem stage1 {m : Module} (hn : 1 ≤ m.Names.length ∧ m.Names.length ≤ 5) (hl : m.Segs.length ≤ 100) (hs : ∀ s ∈ m.Segs, SegOk (m.Names.length : Int) s) :
    loopO (fun x : Int => omf_Check_l14 m m.Segs (m.Segs.length : Int) x) 0 = some (.inr ()) := by
  refine run_all m.Segs.length (fun i hi => ?_) ?_
  · obtain ⟨x, h1, h2⟩ := mem_idx hi
    exact seg_next hn h1 hi (by omega) (hs x h2)
  · unfold omf_Check_l14; rw [dF (by omega), if_neg (by simp)]
theorem idx_app {α : Type} {l : List α} {z : α} {i : Nat} (h : i < l.length) : ∃ x, idx (l ++ [z]) (i : Int) = some x ∧ x ∈ l := by
  refine ⟨l[i], ?_, List.getElem_mem h⟩
  rw [idx_nat (by simp; omega)]
  congr 1
  exact List.getElem_append_left h
theorem idx_last {α : Type} {l : List α} {z : α} : idx (l ++ [z]) (l.length : Int) = some z := by
  rw [idx_nat (by simp)]; simp
theorem stage1_bad {m : Module} (hn : 1 ≤ m.Names.length ∧ m.Names.length ≤ 5) {l : List SegDef} {z : SegDef} (he : m.Segs = l ++ [z]) (hl : l.length ≤ 100) (hs : ∀ s ∈ l, SegOk (m.Names.length : Int) s)
    (hz : segs_May z = some true) (hzn : (m.Names.length : Int) < z.Name) : loopO (fun x : Int => omf_Check_l14 m m.Segs (m.Segs.length : Int) x) 0 = some (.inl 5) := by
  have hlen : m.Segs.length = l.length + 1 := by rw [he]; simp
  refine run_bad l.length 5 (fun i hi => ?_) ?_
  · obtain ⟨x, h1, h2⟩ := idx_app (z := z) hi
    exact seg_next hn (by rw [he]; exact h1) (by omega) (by omega) (hs x h2)
  · unfold omf_Check_l14
    rw [dT (by omega : (l.length : Int) < (m.Segs.length : Int)), if_pos rfl, he, idx_last, Option.bind_some, hz, Option.bind_some, named_f hzn]
    rfl
/-- the second: groups -/
theorem segs_in {m : Module} {t45 : List GrpDef} {t46 t47 : Int} {l : List Int} (hl : l.length ≤ 100) (h : ∀ x ∈ l, 1 ≤ x ∧ x ≤ (m.Segs.length : Int)) : loopO (fun x : Int => omf_Check_l67 m t45 t46 t47 l (l.length : Int) x) 0 = some (.inr ()) := by
  refine run_all l.length (fun i hi => ?_) ?_
  · obtain ⟨x, h1, h2⟩ := mem_idx hi
    unfold omf_Check_l67
    rw [dT (by omega : (i : Int) < (l.length : Int)), if_pos rfl, h1, Option.bind_some, in_t (h x h2), w1 (by omega)]
    rfl
  · unfold omf_Check_l67; rw [dF (by omega), if_neg (by simp)]
theorem grp_next {m : Module} {i : Nat} {g : GrpDef} (hi : idx m.Groups (i : Int) = some g) (hl : i < m.Groups.length) (hil : i < 1000) (hg : GrpOk (m.Names.length : Int) (m.Segs.length : Int) g) :
    omf_Check_l45 m m.Groups (m.Groups.length : Int) (i : Int) = some (.next ((i + 1 : Nat) : Int)) := by
  obtain ⟨a1, a2, a3⟩ := hg
  unfold omf_Check_l45
  rw [dT (by omega : (i : Int) < (m.Groups.length : Int)), if_pos rfl, hi, Option.bind_some, named_t (n := g.Name) (by omega), Option.bind_some]
  simp only [Bool.not_true, Bool.false_eq_true, if_false]
  rw [segs_in (by omega) a2, w1 (by omega)]
  rfl
theorem stage2 {m : Module} (hl : m.Groups.length ≤ 100) (hg : ∀ g ∈ m.Groups, GrpOk (m.Names.length : Int) (m.Segs.length : Int) g) : loopO (fun x : Int => omf_Check_l45 m m.Groups (m.Groups.length : Int) x) 0 = some (.inr ()) := by
  refine run_all m.Groups.length (fun i hi => ?_) ?_
  · obtain ⟨x, h1, h2⟩ := mem_idx hi
    exact grp_next h1 hi (by omega) (hg x h2)
  · unfold omf_Check_l45; rw [dF (by omega), if_neg (by simp)]
theorem stage2_bad {m : Module} (hn : 1 ≤ m.Names.length) {l : List GrpDef} {k : Int} (he : m.Groups = l ++ [⟨1, [k]⟩]) (hl : l.length ≤ 100) (hg : ∀ g ∈ l, GrpOk (m.Names.length : Int) (m.Segs.length : Int) g) (hk : (m.Segs.length : Int) < k) :
    loopO (fun x : Int => omf_Check_l45 m m.Groups (m.Groups.length : Int) x) 0 = some (.inl 5) := by
  have hlen : m.Groups.length = l.length + 1 := by rw [he]; simp
  refine run_bad l.length 5 (fun i hi => ?_) ?_
  · obtain ⟨x, h1, h2⟩ := idx_app (z := (⟨1, [k]⟩ : GrpDef)) hi
    exact grp_next (by rw [he]; exact h1) (by omega) (by omega) (hg x h2)
  · unfold omf_Check_l45
    rw [dT (by omega : (l.length : Int) < (m.Groups.length : Int)), if_pos rfl]
    have e : idx m.Groups (l.length : Int) = some ⟨1, [k]⟩ := by rw [he]; exact idx_last
    rw [e, Option.bind_some, named_t (n := 1) (by omega), Option.bind_some]
    simp only [Bool.not_true, Bool.false_eq_true, if_false]
    have e2 : loopO (fun x : Int => omf_Check_l67 m m.Groups (m.Groups.length : Int) (l.length : Int) [k] (([k] : List Int).length : Int) x) 0 = some (.inl 5) := by
      refine run_bad 0 5 (fun i hi => by omega) ?_
      unfold omf_Check_l67
      rw [dT (by simp), if_pos rfl]
      show (some k).bind _ = _
      rw [Option.bind_some, in_f (.inr hk)]
      rfl
    rw [e2]
    rfl
/-- the third: what is given -/
theorem pub_next {m : Module} {i : Nat} {p : Pub} (hi : idx m.Pubs (i : Int) = some p) (hl : i < m.Pubs.length) (hil : i < 1000) (hp : PubOk (m.Groups.length : Int) (m.Segs.length : Int) p) :
    omf_Check_l91 m m.Pubs (m.Pubs.length : Int) (i : Int) = some (.next ((i + 1 : Nat) : Int)) := by
  obtain ⟨a1, a2⟩ := hp
  unfold omf_Check_l91
  rw [dT (by omega : (i : Int) < (m.Pubs.length : Int)), if_pos rfl, hi, Option.bind_some, dF (by omega : ¬ p.Group < 0), if_neg (by simp), dF (by omega : ¬ p.Group > (m.Groups.length : Int)), if_neg (by simp), dF (by omega : ¬ p.Seg < 0), if_neg (by simp), dF (by omega : ¬ p.Seg > (m.Segs.length : Int)), if_neg (by simp), w1 (by omega)]
theorem stage3 {m : Module} (hl : m.Pubs.length ≤ 100) (hp : ∀ p ∈ m.Pubs, PubOk (m.Groups.length : Int) (m.Segs.length : Int) p) : loopO (fun x : Int => omf_Check_l91 m m.Pubs (m.Pubs.length : Int) x) 0 = some (.inr ()) := by
  refine run_all m.Pubs.length (fun i hi => ?_) ?_
  · obtain ⟨x, h1, h2⟩ := mem_idx hi
    exact pub_next h1 hi (by omega) (hp x h2)
  · unfold omf_Check_l91; rw [dF (by omega), if_neg (by simp)]
theorem stage3_bad {m : Module} {l : List Pub} {z : Pub} (he : m.Pubs = l ++ [z]) (hl : l.length ≤ 100) (hp : ∀ p ∈ l, PubOk (m.Groups.length : Int) (m.Segs.length : Int) p) (hz : z.Group = 0) (hk : (m.Segs.length : Int) < z.Seg) :
    loopO (fun x : Int => omf_Check_l91 m m.Pubs (m.Pubs.length : Int) x) 0 = some (.inl 5) := by
  have hlen : m.Pubs.length = l.length + 1 := by rw [he]; simp
  refine run_bad l.length 5 (fun i hi => ?_) ?_
  · obtain ⟨x, h1, h2⟩ := idx_app (z := z) hi
    exact pub_next (by rw [he]; exact h1) (by omega) (by omega) (hp x h2)
  · unfold omf_Check_l91
    have e : idx m.Pubs (l.length : Int) = some z := by rw [he]; exact idx_last
    rw [dT (by omega : (l.length : Int) < (m.Pubs.length : Int)), if_pos rfl, e, Option.bind_some, dF (by omega : ¬ z.Group < 0), if_neg (by simp), dF (by omega : ¬ z.Group > (m.Groups.length : Int)), if_neg (by simp), dF (by omega : ¬ z.Seg < 0), if_neg (by simp), dT (by omega : z.Seg > (m.Segs.length : Int)), if_pos rfl]
/-- the fourth: data -/
theorem way_t {m : Module} {b n : Int} (hb : 0 ≤ b) (h : b < 3 → 1 ≤ n ∧ n ≤ at3 (manyOf m) b) : omf_way m b n = some true := by
  unfold omf_way
  by_cases h0 : b = 0
  · subst h0
    have := h (by omega)
    rw [if_pos (by simp), in_t (by simpa [at3, manyOf] using this)]; rfl
  by_cases h1 : b = 1
  · subst h1
    have := h (by omega)
    rw [if_neg (by simp), if_pos (by simp), in_t (by simpa [at3, manyOf] using this)]; rfl
  by_cases h2 : b = 2
  · subst h2
    have := h (by omega)
    rw [if_neg (by simp), if_neg (by simp), if_pos (by simp), in_t (by simpa [at3, manyOf] using this)]; rfl
  · rw [if_neg (by simpa using h0), if_neg (by simpa using h1), if_neg (by simpa using h2)]
theorem fixes_t {m : Module} {n : Int} {l : List Fixup} (hl : l.length ≤ 100) (h : ∀ f ∈ l, FixOk (manyOf m) n f) : omf_fixes m l = some true := by
  unfold omf_fixes
  rw [show loopO (fun x : Int => omf_fixes_l6 m l (l.length : Int) x) 0 = some (.inr ()) from run_all l.length (fun i hi => by
    obtain ⟨f, h1, h2⟩ := mem_idx hi
    obtain ⟨b1, b2, b3, b4, b5, b6⟩ := h f h2
    unfold omf_fixes_l6
    rw [dT (by omega : (i : Int) < (l.length : Int)), if_pos rfl, h1, Option.bind_some, way_t (b := f.Frame) (by omega) (fun hlt => by omega), way_t (b := f.Target) (by omega) (fun _ => b5), w1 (by omega)]
    rfl) (by unfold omf_fixes_l6; rw [dF (by omega), if_neg (by simp)])]
  rfl
theorem by_t {n : Int} (h : 0 ≤ n ∧ n ≤ 2) : fixup_by n = some true := by
  unfold fixup_by; rw [dT (by omega : n ≥ 0), if_pos rfl, dT h.2]
theorem by_f {n : Int} (h : 2 < n) : fixup_by n = some false := by
  unfold fixup_by; rw [dT (by omega : n ≥ 0), if_pos rfl, dF (by omega)]
theorem may18 {a : A3 Int} (ha : ManyOk a) {n : Int} {f : Fixup} (h : FixOk a n f) : fixup_May_j18 f = some true := by
  obtain ⟨b1, b2, b3, b4, b5, b6⟩ := h
  have l1 := at3_lo ha f.Target
  have l2 := at3_lo ha f.Frame
  unfold fixup_May_j18
  rw [by_t (by omega), Option.bind_some]
  simp only [Bool.not_true, Bool.false_eq_true, if_false]
  rw [dF (by omega : ¬ f.N < 1), if_neg (by simp), dF (by omega : ¬ f.N > 32767), if_neg (by simp)]
  rcases b6 with ⟨c1, c2, c3⟩ | ⟨c1, c2⟩
  · rw [by_t (by omega), Option.bind_some, if_pos rfl, dT (by omega : f.FrameN ≥ 1), if_pos rfl, dT (by omega : f.FrameN ≤ 32767)]
  · rw [by_f (by omega), Option.bind_some, if_neg (by simp)]
    rcases c1 with c1 | c1 <;> simp [c1, c2]
theorem may_t {a : A3 Int} (ha : ManyOk a) {n : Int} (hn : 0 ≤ n ∧ n ≤ 1000) {f : Fixup} (h : FixOk a n f) : fixup_May f n = some true := by
  have h0 := h
  obtain ⟨b1, b2, b3, b4, b5, b6⟩ := h
  have l0 := size_lo f.Loc
  unfold fixup_May
  rw [dF (by omega : ¬ f.Loc < 0), if_neg (by simp), dF (by omega : ¬ f.Loc > 4), if_neg (by simp), dF (by omega : ¬ f.At < 0), if_neg (by simp), dF (by omega : ¬ f.At ≥ 1024), if_neg (by simp), size_spec', Option.bind_some, wrap64 (by omega) (by omega), dF (by omega : ¬ f.At > n - size f.Loc), if_neg (by simp)]
  cases hs : f.Self with
  | true =>
    have := b3 hs
    have n2 : (f.Loc == 2) = false := by simp; omega
    have n3 : (f.Loc == 3) = false := by simp; omega
    have n4 : (f.Loc == 4) = false := by simp; omega
    simp only [n2, n3, n4, if_true, Bool.false_eq_true, if_false]
    exact may18 ha (f := { f with Self := true }) ⟨b1, b2, fun _ => this, b4, b5, b6⟩
  | false =>
    simp only [Bool.false_eq_true, if_false]
    exact may18 ha (f := { f with Self := false }) ⟨b1, b2, (fun h => by cases h), b4, b5, b6⟩
theorem data_next {m : Module} (ha : ManyOk (manyOf m)) {i : Nat} {d : Data} (hi : idx m.Datas (i : Int) = some d) (hl : i < m.Datas.length) (hil : i < 1000) (hs : m.Segs.length ≤ 100) (hd : DataOk m.Segs (manyOf m) d) :
    omf_rest_l6 m m.Datas (m.Datas.length : Int) (i : Int) = some (.next ((i + 1 : Nat) : Int)) := by
  obtain ⟨a1, a2, a3, a4, a5, a6⟩ := hd
  unfold omf_rest_l6
  rw [dT (by omega : (i : Int) < (m.Datas.length : Int)), if_pos rfl, hi, Option.bind_some, in_t a1, Option.bind_some]
  simp only [Bool.not_true, Bool.false_eq_true, if_false]
  rw [fixes_t (n := (d.Bytes.length : Int)) (by omega) a5, Option.bind_some]
  simp only [Bool.not_true, Bool.false_eq_true, if_false]
  have e1 : IntKind.wrap .i64 (d.Seg - 1) = d.Seg - 1 := wrap64 (by omega) (by omega)
  obtain ⟨s, hs1⟩ : ∃ s, idx m.Segs (d.Seg - 1) = some s := ⟨_, idx_eq (by omega) (by omega)⟩
  have h2 := a2 s hs1
  have e2 : IntKind.wrap .i64 ((IntKind.wrap .i64 d.Off) + (d.Bytes.length : Int)) = d.Off + (d.Bytes.length : Int) := by
    rw [wrap64 (n := d.Off) (by omega) (by omega), wrap64 (by omega) (by omega)]
  rw [e1, hs1, Option.bind_some, e2, dF (by omega), if_neg (by simp)]
  have e3 : loopO (fun x : Int => omf_rest_l36 m d m.Datas (m.Datas.length : Int) (i : Int) d.Fixups (d.Fixups.length : Int) x) 0 = some (.inr ()) := by
    refine run_all d.Fixups.length (fun j hj => ?_) ?_
    · obtain ⟨f, h1, h2⟩ := mem_idx hj
      unfold omf_rest_l36
      rw [dT (by omega : (j : Int) < (d.Fixups.length : Int)), if_pos rfl, h1, Option.bind_some, may_t ha (by omega) (a5 f h2), w1 (by omega)]
      rfl
    · unfold omf_rest_l36; rw [dF (by omega), if_neg (by simp)]
  rw [e3, w1 (by omega)]
  rfl
theorem rest_bad {m : Module} (ha : ManyOk (manyOf m)) {l : List Data} {z : Data} (e : Int) (he : m.Datas = l ++ [z]) (hl : l.length ≤ 100) (hs : m.Segs.length ≤ 100) (hd : ∀ d ∈ l, DataOk m.Segs (manyOf m) d)
    (hz : ∀ i, omf_rest_l6 m m.Datas (m.Datas.length : Int) (l.length : Int) = i → i = some (.out (.inl e))) : omf_rest m = some e := by
  have hlen : m.Datas.length = l.length + 1 := by rw [he]; simp
  unfold omf_rest
  rw [show loopO (fun x : Int => omf_rest_l6 m m.Datas (m.Datas.length : Int) x) 0 = some (.inl e) from run_bad l.length e (fun i hi => by
    obtain ⟨x, h1, h2⟩ := idx_app (z := z) hi
    exact data_next ha (by rw [he]; exact h1) (by omega) (by omega) hs (hd x h2)) (hz _ rfl)]
  rfl
theorem bad5 {m : Module} {l : List Data} {z : Data} (he : m.Datas = l ++ [z]) (hk : (m.Segs.length : Int) < z.Seg) : omf_rest_l6 m m.Datas (m.Datas.length : Int) (l.length : Int) = some (.out (.inl 5)) := by
  have hlen : m.Datas.length = l.length + 1 := by rw [he]; simp
  have e : idx m.Datas (l.length : Int) = some z := by rw [he]; exact idx_last
  unfold omf_rest_l6
  rw [dT (by omega : (l.length : Int) < (m.Datas.length : Int)), if_pos rfl, e, Option.bind_some, in_f (.inr hk)]
  rfl
theorem bad3 {m : Module} {l : List Data} {s : SegDef} {o : Int} (he : m.Datas = l ++ [⟨1, o, [1], []⟩]) (h1 : 1 ≤ m.Segs.length) (hs : idx m.Segs 0 = some s) (ho : o = s.Len) (hlo : 0 ≤ s.Len ∧ s.Len ≤ 1000) : omf_rest_l6 m m.Datas (m.Datas.length : Int) (l.length : Int) = some (.out (.inl 3)) := by
  have hlen : m.Datas.length = l.length + 1 := by rw [he]; simp
  have e : idx m.Datas (l.length : Int) = some ⟨1, o, [1], []⟩ := by rw [he]; exact idx_last
  unfold omf_rest_l6
  rw [dT (by omega : (l.length : Int) < (m.Datas.length : Int)), if_pos rfl, e, Option.bind_some, in_t (by omega : 1 ≤ (1 : Int) ∧ (1 : Int) ≤ (m.Segs.length : Int)), Option.bind_some]
  simp only [Bool.not_true, Bool.false_eq_true, if_false]
  rw [fixes_t (n := 0) (by simp) (fun f hf => by cases hf), Option.bind_some]
  simp only [Bool.not_true, Bool.false_eq_true, if_false]
  have e1 : IntKind.wrap .i64 (1 - 1) = 0 := rfl
  have e2 : IntKind.wrap .i64 ((IntKind.wrap .i64 o) + (([1] : List Int).length : Int)) = o + 1 := by
    rw [wrap64 (n := o) (by omega) (by omega), wrap64 (by simp; omega) (by simp; omega)]; rfl
  rw [e1, hs, Option.bind_some, e2, dT (by omega : o + 1 > s.Len), if_pos rfl]
end Go.Es.Omc
