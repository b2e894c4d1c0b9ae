/- CodeOwn answers true, in plain Lean. No condition. -/
import Derived.Test.YtncfbghdnnhfiaaDoorCowH
set_option linter.unusedVariables false
set_option linter.unusedSimpArgs false
set_option maxHeartbeats 4000000
set_option maxRecDepth 100000
namespace Go.Es.Cow
/-- One list begins the other. -/
def Cp : List Int → List Int → Prop
  | [], _ => True
  | _, [] => True
  | x :: a, y :: b => x = y ∧ Cp a b
def byts (l : List Int) : Prop := ∀ x ∈ l, 0 ≤ x ∧ x ≤ 255
theorem ofNat_inj {x y : Int} (hx : 0 ≤ x ∧ x ≤ 255) (hy : 0 ≤ y ∧ y ≤ 255) (h : UInt8.ofNat x.toNat = UInt8.ofNat y.toNat) : x = y := by
  have := congrArg UInt8.toNat h
  rw [UInt8.toNat_ofNat', UInt8.toNat_ofNat', Nat.mod_eq_of_lt (by omega), Nat.mod_eq_of_lt (by omega)] at this
  omega
theorem Cp_of : ∀ (a b : List Int), byts a → byts b → b2s (a.take (min a.length b.length)) = b2s (b.take (min a.length b.length)) → Cp a b
  | [], _, _, _, _ => trivial
  | _ :: _, [], _, _, _ => trivial
  | x :: a, y :: b, ha, hb, h => by
    rw [List.length_cons, List.length_cons, Nat.succ_min_succ] at h
    simp only [List.take_succ_cons, b2s, List.map_cons, List.cons.injEq] at h
    exact ⟨ofNat_inj (ha x (by simp)) (hb y (by simp)) h.1, Cp_of a b (fun z hz => ha z (by simp [hz])) (fun z hz => hb z (by simp [hz])) h.2⟩
theorem Cp_opt (S : Int → Prop) {P P' B B' : List Int} (h1 : P.length ≤ 1) (h2 : P'.length ≤ 1) (s1 : ∀ x ∈ P, S x) (s2 : ∀ x ∈ P', S x) (hB : ∃ x A, B = x :: A ∧ ¬ S x) (hB' : ∃ x A, B' = x :: A ∧ ¬ S x)
    (h : Cp (P ++ B) (P' ++ B')) : P = P' ∧ Cp B B' := by
  obtain ⟨x, A, rfl, hx⟩ := hB
  obtain ⟨x', A', rfl, hx'⟩ := hB'
  match P, P', h1, h2 with
  | [], [], _, _ => exact ⟨rfl, h⟩
  | [], [p], _, _ => exact absurd (h.1 ▸ s2 p (by simp)) hx
  | [p], [], _, _ => exact absurd (h.1 ▸ s1 p (by simp)) hx'
  | [p], [q], _, _ => obtain ⟨h3, h4⟩ := h; subst h3; exact ⟨rfl, h4⟩
theorem rowP {op reg : Int} (h0 : 0 ≤ op ∧ op ≤ 255) (h : (rowI op reg).2 = true) : op ≠ 240 ∧ op ≠ 242 ∧ op ≠ 243 ∧ op ≠ 38 ∧ op ≠ 46 ∧ op ≠ 54 ∧ op ≠ 62 := by
  unfold rowI at h
  cases hp : isP op.toNat with
  | true => rw [hp] at h; simp at h
  | false =>
    simp only [isP, Bool.or_eq_false_iff, beq_eq_false_iff_ne] at hp
    omega
theorem modl_ok : LIT.all (fun l => l.all fun x => l.all fun y => x.1 == 0 || y.1 == 0 || ((sec x.2.1 || sec x.2.2) == (sec y.2.1 || sec y.2.2))) = true := by decide +kernel
theorem look_mem (op k : Nat) (h : (look op k).1 ≠ 0) : ∃ l, LIT[op]? = some l ∧ look op k ∈ l := by
  unfold look at h ⊢
  cases hl : LIT[op]? with
  | none => rw [hl] at h; simp at h
  | some l =>
    rw [hl] at h
    refine ⟨l, rfl, ?_⟩
    simp only at h ⊢
    have g : ∀ j, (l.getD j (0, 0, 0)).1 ≠ 0 → l.getD j (0, 0, 0) ∈ l := fun j hj => by
      rw [List.getD_eq_getElem?_getD] at hj ⊢
      cases hq : l[j]? with
      | none => rw [hq] at hj; simp at hj
      | some x => simpa using List.mem_of_getElem? hq
    split at h
    · rename_i e; rw [if_pos e]; exact g 0 h
    · rename_i e; rw [if_neg e]; exact g k h
theorem mod_same {op reg reg' : Int} (h : (rowI op reg).2 = true) (h' : (rowI op reg').2 = true) : (rowI op reg).1.Mod = (rowI op reg').1.Mod := by
  unfold rowI at h h' ⊢
  cases hp : isP op.toNat with
  | true => rw [hp] at h; simp at h
  | false =>
    rw [hp] at h h'
    simp only [Bool.false_eq_true, if_false] at h h' ⊢
    have q : ∀ x, (rw' x).2 = true → x.1 ≠ 0 ∧ (rw' x).1.Mod = (sec x.2.1 || sec x.2.2) := fun x hx => by
      unfold rw' at hx ⊢
      split at hx
      · cases hx
      · rename_i e; rw [if_neg e]; exact ⟨e, rfl⟩
    obtain ⟨n1, e1⟩ := q _ h
    obtain ⟨n2, e2⟩ := q _ h'
    rw [e1, e2]
    obtain ⟨l, hl, m1⟩ := look_mem _ _ n1
    obtain ⟨l', hl', m2⟩ := look_mem _ _ n2
    rw [hl] at hl'; cases hl'
    have ht := modl_ok
    rw [List.all_eq_true] at ht
    have h1 := ht l (List.mem_of_getElem? hl)
    rw [List.all_eq_true] at h1
    have h2 := h1 _ m1
    rw [List.all_eq_true] at h2
    have h3 := h2 _ m2
    simp only [Bool.or_eq_true, beq_iff_eq] at h3
    rcases h3 with (h3 | h3) | h3
    · exact absurd h3 n1
    · exact absurd h3 n2
    · exact h3
theorem step_facts (i : Inst) (r : Row) (k : Int) (h : (match stepB i r k with | some b => b | none => i.Imm == 0 && i.Sel == 0) = true) :
    (bytI k ≠ 4 → i.Sel = 0) ∧ (bytI k = 0 → i.Imm = 0) ∧ (bytI k = 1 → (k = 6 ∧ i.Imm < 256) ∨ (k ≠ 6 ∧ fitB i.Imm = true)) := by
  unfold stepB at h
  unfold bytI
  by_cases h6 : k = 6
  · subst h6; simp at h; simp; omega
  by_cases h8 : k = 8
  · subst h8; simp at h; simp [h]
  by_cases h9 : k = 9
  · subst h9; simp at h; simp [h]
  by_cases h7 : k = 7
  · subst h7; simp at h; simp [h]
  by_cases h10 : k = 10
  · subst h10; simp at h; simp [h]
  by_cases h12 : k = 12
  · subst h12; simp at h; simp [h]
  by_cases h13 : k = 13
  · subst h13; simp at h; simp [h]
  by_cases h11 : k = 11
  · subst h11; simp
  simp [h6, h7, h8, h9, h10, h11, h12, h13] at h
  simp [h6, h7, h8, h9, h10, h11, h12, h13, h]
theorem fit_inj {a b : Int} (ha : 0 ≤ a ∧ a ≤ 65535) (hb : 0 ≤ b ∧ b ≤ 65535) (fa : fitB a = true) (fb : fitB b = true) (h : a % 256 = b % 256) : a = b := by
  simp only [fitB, Bool.or_eq_true, decide_eq_true_eq] at fa fb
  omega
theorem Cp_two {w w' : Int} {B B' : List Int} (hw : 0 ≤ w ∧ w ≤ 65535) (hw' : 0 ≤ w' ∧ w' ≤ 65535) (h : Cp (twoI w ++ B) (twoI w' ++ B')) : w = w' ∧ Cp B B' := by
  obtain ⟨h1, h2, h3⟩ := h
  exact ⟨by omega, h3⟩
theorem Cp_beh {i k : Inst} {r : Row} (hi : okI i) (hk : okI k) (bi : behB i r = true) (bk : behB k r = true) (hm : bytI r.A + bytI r.B = 0 ∨ bytI r.A + bytI r.B = 1 ∨ bytI r.A + bytI r.B = 2 ∨ bytI r.A + bytI r.B = 4)
    (h : Cp (behL i (bytI r.A + bytI r.B)) (behL k (bytI r.A + bytI r.B))) : i.Imm = k.Imm ∧ i.Sel = k.Sel := by
  unfold behB at bi bk
  obtain ⟨s1, s2, s3⟩ := step_facts i r _ bi
  obtain ⟨t1, t2, t3⟩ := step_facts k r _ bk
  have lA := bytI_lo r.A; have lB := bytI_lo r.B
  have hq : bytI (if bytI r.A == 0 then r.B else r.A) = if bytI r.A = 0 then bytI r.B else bytI r.A := by
    by_cases e : bytI r.A = 0
    · simp [e]
    · have : (bytI r.A == 0) = false := by simpa using e
      simp [e, this]
  rw [hq] at s1 s2 s3 t1 t2 t3
  unfold behL at h
  rcases hm with m | m | m | m
  · have z : (if bytI r.A = 0 then bytI r.B else bytI r.A) = 0 := by split <;> omega
    rw [z] at s1 s2 t1 t2
    exact ⟨by rw [s2 rfl, t2 rfl], by rw [s1 (by decide), t1 (by decide)]⟩
  · have z : (if bytI r.A = 0 then bytI r.B else bytI r.A) = 1 := by split <;> omega
    rw [z] at s1 s3 t1 t3
    rw [m] at h
    have h' : i.Imm % 256 = k.Imm % 256 := h.1
    refine ⟨?_, by rw [s1 (by decide), t1 (by decide)]⟩
    have u1 := hi.2.2.1; have u2 := hk.2.2.1
    rcases s3 rfl with ⟨a1, a2⟩ | ⟨a1, a2⟩
    · rcases t3 rfl with ⟨c1, c2⟩ | ⟨c1, c2⟩
      · omega
      · exact absurd a1 c1
    · rcases t3 rfl with ⟨c1, c2⟩ | ⟨c1, c2⟩
      · exact absurd c1 a1
      · exact fit_inj u1 u2 a2 c2 h'
  · have z : (if bytI r.A = 0 then bytI r.B else bytI r.A) ≠ 4 := by split <;> omega
    rw [m] at h
    have h' : Cp (twoI i.Imm ++ []) (twoI k.Imm ++ []) := by simpa [twoI] using h
    exact ⟨(Cp_two hi.2.2.1 hk.2.2.1 h').1, by rw [s1 z, t1 z]⟩
  · rw [m] at h
    have h' : Cp (twoI i.Imm ++ (twoI i.Sel ++ [])) (twoI k.Imm ++ (twoI k.Sel ++ [])) := by simpa using h
    obtain ⟨e1, h2⟩ := Cp_two hi.2.2.1 hk.2.2.1 h'
    exact ⟨e1, (Cp_two hi.2.2.2 hk.2.2.2 h2).1⟩
theorem sec_facts (i : Inst) (r : Row) (h : secB i r = true) : (r.Mod = false → i.Mod = 0 ∧ i.Reg = 0 ∧ i.RM = 0 ∧ i.Disp = 0) ∧
    (r.Mod = true → (dispI i.Mod i.RM = 0 → i.Disp = 0) ∧ (dispI i.Mod i.RM = 1 → fitB i.Disp = true)) := by
  unfold secB at h
  cases hr : r.Mod with
  | false =>
    rw [hr] at h
    simp only [Bool.false_eq_true, if_false, Bool.and_eq_true, beq_iff_eq] at h
    exact ⟨fun _ => h, (fun e => by cases e)⟩
  | true =>
    rw [hr] at h
    simp only [if_true, Bool.and_eq_true] at h
    obtain ⟨_, _, _, _, _, _, _, h⟩ := h
    refine ⟨(fun e => by cases e), fun _ => ⟨fun d => ?_, fun d => ?_⟩⟩
    · rw [d] at h; simpa using h
    · rw [d] at h; simpa using h
theorem Cp_disp {i k : Inst} {B B' : List Int} {d : Int} (hi : okI i) (hk : okI k) (hd : d = 0 ∨ d = 1 ∨ d = 2) (i0 : d = 0 → i.Disp = 0) (i1 : d = 1 → fitB i.Disp = true) (k0 : d = 0 → k.Disp = 0) (k1 : d = 1 → fitB k.Disp = true)
    (h : Cp ((twoI i.Disp).take d.toNat ++ B) ((twoI k.Disp).take d.toNat ++ B')) : i.Disp = k.Disp ∧ Cp B B' := by
  rcases hd with rfl | rfl | rfl
  · exact ⟨by rw [i0 rfl, k0 rfl], h⟩
  · exact ⟨fit_inj hi.2.1 hk.2.1 (i1 rfl) (k1 rfl) h.1, h.2⟩
  · exact Cp_two hi.2.1 hk.2.1 h
theorem puts_own (i k : Inst) (hi : okI i) (hk : okI k) (mi : mayB i = true) (mk : mayB k = true) (h : Cp (putL i) (putL k)) : i = k := by
  obtain ⟨f1, f2, f3, f4, f5⟩ := mayB_facts i mi
  obtain ⟨g1, g2, g3, g4, g5⟩ := mayB_facts k mk
  have p1 := rowP hi.1 f1; have p2 := rowP hk.1 g1
  simp only [mayB, Bool.and_eq_true] at mi mk
  obtain ⟨_, si, bi, _⟩ := mi
  obtain ⟨_, sk, bk, _⟩ := mk
  unfold putL aheadL at h
  simp only [List.append_assoc] at h
  have hd3 : ∀ (j : Inst) (T : List Int), (0 ≤ j.Seg ∧ j.Seg ≤ 4) → (0 ≤ j.Rep ∧ j.Rep ≤ 2) → j.Op ≠ 240 → ∃ x A, ((if j.Rep > 0 then [241 + j.Rep] else []) ++ ((if j.Seg > 0 then [30 + 8 * j.Seg] else []) ++ ([j.Op] ++ T)) : List Int) = x :: A ∧ ¬ x = 240 := fun j T hs hr ho => by
    by_cases h1 : j.Rep > 0
    · exact ⟨241 + j.Rep, _, by rw [if_pos h1]; rfl, by omega⟩
    · by_cases h2 : j.Seg > 0
      · exact ⟨30 + 8 * j.Seg, _, by rw [if_neg h1, if_pos h2]; rfl, by omega⟩
      · exact ⟨j.Op, _, by rw [if_neg h1, if_neg h2]; rfl, ho⟩
  have hd2 : ∀ (j : Inst) (T : List Int), (0 ≤ j.Seg ∧ j.Seg ≤ 4) → j.Op ≠ 242 → j.Op ≠ 243 → ∃ x A, ((if j.Seg > 0 then [30 + 8 * j.Seg] else []) ++ ([j.Op] ++ T) : List Int) = x :: A ∧ ¬ (x = 242 ∨ x = 243) := fun j T hs h1 h2 => by
    by_cases h3 : j.Seg > 0
    · exact ⟨30 + 8 * j.Seg, _, by rw [if_pos h3]; rfl, by omega⟩
    · exact ⟨j.Op, _, by rw [if_neg h3]; rfl, by omega⟩
  obtain ⟨eL, h⟩ := Cp_opt (· = 240) (by split <;> simp) (by split <;> simp) (fun x hx => by split at hx <;> simp at hx; exact hx) (fun x hx => by split at hx <;> simp at hx; exact hx) (hd3 i _ f2 f3 p1.1) (hd3 k _ g2 g3 p2.1) h
  obtain ⟨eR, h⟩ := Cp_opt (fun x => x = 242 ∨ x = 243) (by split <;> simp) (by split <;> simp) (fun x hx => by split at hx <;> simp at hx; omega) (fun x hx => by split at hx <;> simp at hx; omega) (hd2 i _ f2 p1.2.1 p1.2.2.1) (hd2 k _ g2 p2.2.1 p2.2.2.1) h
  obtain ⟨eS, h⟩ := Cp_opt (fun x => x = 38 ∨ x = 46 ∨ x = 54 ∨ x = 62) (by split <;> simp) (by split <;> simp) (fun x hx => by split at hx <;> simp at hx; omega) (fun x hx => by split at hx <;> simp at hx; omega) ⟨i.Op, _, rfl, by omega⟩ ⟨k.Op, _, rfl, by omega⟩ h
  obtain ⟨eO, h⟩ := h
  have aL : i.Lock = k.Lock := by
    cases h1 : i.Lock <;> cases h2 : k.Lock <;> simp [h1, h2] at eL <;> rfl
  have aR : i.Rep = k.Rep := by
    by_cases h1 : i.Rep > 0 <;> by_cases h2 : k.Rep > 0 <;> simp [h1, h2] at eR <;> omega
  have aS : i.Seg = k.Seg := by
    by_cases h1 : i.Seg > 0 <;> by_cases h2 : k.Seg > 0 <;> simp [h1, h2] at eS <;> omega
  have sI := sec_facts i _ si; have sK := sec_facts k _ sk
  have hrf := row_facts i.Op i.Reg f1
  have main : i.Mod = k.Mod ∧ i.Reg = k.Reg ∧ i.RM = k.RM ∧ i.Disp = k.Disp ∧ i.Imm = k.Imm ∧ i.Sel = k.Sel := by
    have hmod : (rowI i.Op i.Reg).1.Mod = (rowI k.Op k.Reg).1.Mod := by rw [← eO] at g1 ⊢; exact mod_same f1 g1
    have hm : bytI (rowI i.Op i.Reg).1.A + bytI (rowI i.Op i.Reg).1.B = 0 ∨ bytI (rowI i.Op i.Reg).1.A + bytI (rowI i.Op i.Reg).1.B = 1 ∨ bytI (rowI i.Op i.Reg).1.A + bytI (rowI i.Op i.Reg).1.B = 2 ∨ bytI (rowI i.Op i.Reg).1.A + bytI (rowI i.Op i.Reg).1.B = 4 := by
      rcases hrf.2.1 with h | h | h | h
      · exact .inl h
      · exact .inr (.inl h)
      · exact .inr (.inr (.inl h))
      · exact .inr (.inr (.inr h.1))
    cases hr : (rowI i.Op i.Reg).1.Mod with
    | false =>
      obtain ⟨a1, a2, a3, a4⟩ := sI.1 hr
      obtain ⟨b1, b2, b3, b4⟩ := sK.1 (by rw [← hmod]; exact hr)
      have er : rowI k.Op k.Reg = rowI i.Op i.Reg := by rw [← eO, a2, b2]
      rw [er] at h bk
      unfold modL at h
      rw [hr] at h
      simp only [Bool.false_eq_true, if_false, List.nil_append] at h
      obtain ⟨c1, c2⟩ := Cp_beh hi hk bi bk hm h
      exact ⟨by rw [a1, b1], by rw [a2, b2], by rw [a3, b3], by rw [a4, b4], c1, c2⟩
    | true =>
      have hr' : (rowI k.Op k.Reg).1.Mod = true := by rw [← hmod]; exact hr
      obtain ⟨m1, m2, m3⟩ := f5 hr
      obtain ⟨n1, n2, n3⟩ := g5 hr'
      unfold modL at h
      rw [hr, hr'] at h
      simp only [if_true, List.cons_append] at h
      obtain ⟨e, h⟩ := h
      have eM : i.Mod = k.Mod := by omega
      have eG : i.Reg = k.Reg := by omega
      have eB : i.RM = k.RM := by omega
      have er : rowI k.Op k.Reg = rowI i.Op i.Reg := by rw [← eO, eG]
      rw [er] at h bk
      have q2 := sK.2 hr'
      rw [← eM, ← eB] at h q2
      obtain ⟨eD, h⟩ := Cp_disp hi hk (dispI_lo i.Mod i.RM) (sI.2 hr).1 (sI.2 hr).2 q2.1 q2.2 h
      obtain ⟨c1, c2⟩ := Cp_beh hi hk bi bk hm h
      exact ⟨eM, eG, eB, eD, c1, c2⟩
  obtain ⟨c1, c2, c3, c4, c5, c6⟩ := main
  cases i; cases k
  simp only at aL aR aS eO c1 c2 c3 c4 c5 c6
  subst aL aR aS eO c1 c2 c3 c4 c5 c6
  rfl
theorem twoI_byts {w : Int} (hw : 0 ≤ w ∧ w ≤ 65535) : byts (twoI w) := fun x hx => by
  simp only [twoI, List.mem_cons, List.not_mem_nil, or_false] at hx
  omega
theorem putL_byts (i : Inst) (h : okI i) (hm : mayB i = true) : byts (putL i) := by
  obtain ⟨f1, f2, f3, f4, f5⟩ := mayB_facts i hm
  intro x hx
  unfold putL aheadL modL behL at hx
  simp only [List.mem_append] at hx
  rcases hx with (hx | hx | hx) | hx | hx | hx
  · split at hx <;> simp at hx; omega
  · split at hx <;> simp at hx; omega
  · split at hx <;> simp at hx; omega
  · simp at hx; rw [hx]; exact h.1
  · split at hx
    · rename_i hr
      obtain ⟨m1, m2, m3⟩ := f5 hr
      rcases List.mem_cons.1 hx with hx | hx
      · omega
      · exact twoI_byts h.2.1 x (List.mem_of_mem_take hx)
    · simp at hx
  · split at hx
    · exact twoI_byts h.2.2.1 x (List.mem_of_mem_take hx)
    · split at hx
      · rcases List.mem_append.1 hx with hx | hx
        · exact twoI_byts h.2.2.1 x hx
        · exact twoI_byts h.2.2.2 x hx
      · simp at hx
theorem putL_pos (i : Inst) : 1 ≤ (putL i).length := by unfold putL; simp; omega
theorem codeOwn_true (x y : Inst) (wx : Inst.wf x) (wy : Inst.wf y) : hansomlaw06_CodeOwn x y = some true := by
  obtain ⟨i, h1, hi, mi⟩ := near_spec x (okI_wf wx)
  obtain ⟨k, h2, hk, mk⟩ := near_spec y (okI_wf wy)
  unfold hansomlaw06_CodeOwn
  rw [h1, Option.bind_some, h2, Option.bind_some, putC i hi, Option.bind_some, putC k hk, Option.bind_some, awake6, Option.bind_some, mi, mk]
  have l1 := putL_pos i; have l2 := putL_pos k
  have hn : mnI ((putL i).length : Int) ((putL k).length : Int) = ((min (putL i).length (putL k).length : Nat) : Int) := by rw [mnI_eq]; omega
  simp only [if_true, beq_self_eq_true, hn]
  rw [if_pos (by simp; omega), cutL_eq (by omega) (by omega) (by omega), Option.bind_some, cutL_eq (by omega) (by omega) (by omega), Option.bind_some]
  simp only [Int.toNat_natCast, Int.toNat_zero, List.drop_zero, Nat.sub_zero]
  by_cases e : i = k
  · subst e; simp
  · have hne : (b2s ((putL i).take (min (putL i).length (putL k).length)) == b2s ((putL k).take (min (putL i).length (putL k).length))) = false := by
      rw [beq_eq_false_iff_ne]
      intro hb
      exact e (puts_own i k hi hk mi mk (Cp_of _ _ (putL_byts i hi mi) (putL_byts k hk mk) hb))
    rw [hne]
    congr 1
    rw [beq_iff_eq, Bool.eq_false_iff]
    intro hc
    simp only [Bool.and_eq_true, beq_iff_eq, and_true] at hc
    obtain ⟨c1, c2, c3, c4, c5, c6, c7, c8, c9, c10⟩ := hc
    apply e
    cases i; cases k
    simp only at c1 c2 c3 c4 c5 c6 c7 c8 c9 c10
    subst c1 c2 c3 c4 c5 c6 c7 c8 c9 c10
    rfl
end Go.Es.Cow
