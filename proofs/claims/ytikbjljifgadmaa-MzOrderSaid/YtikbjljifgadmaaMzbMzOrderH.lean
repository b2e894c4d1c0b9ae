/- The law MzOrder in plain Lean. No condition. -/
import Derived.Test.YtikbjljifgadmaaMzbH
set_option linter.unusedVariables false
set_option linter.unusedSimpArgs false
set_option maxHeartbeats 1000000
set_option maxRecDepth 100000
namespace Go.Es.Mzb
/-! ### two entries change places -/
theorem perm_swap {α : Type} [DecidableEq α] (l : List α) {p q : Nat} (hp : p < l.length) (hq : q < l.length) : ((l.set p l[q]).set q l[p]).Perm l := by
  rw [List.perm_iff_count]
  intro b
  have hq' : q < (l.set p l[q]).length := by simpa using hq
  have e1 : (l.set p l[q])[q] = l[q] := by
    rw [List.getElem_set]; split <;> rfl
  rw [List.count_set (h := hq'), List.count_set (h := hp), e1]
  have h1 : (if (l[p] == b) = true then 1 else 0) ≤ l.count b := by
    split
    · rename_i h
      have : l[p] = b := by simpa using h
      rw [← this]
      exact List.count_pos_iff.2 (List.getElem_mem hp)
    · omega
  generalize (if (l[p] == b) = true then 1 else 0) = u at *
  generalize (if (l[q] == b) = true then 1 else 0) = v at *
  omega
/-- four bytes -/
def c4 (p : Int × Int) : A4 Int := ⟨p.1 % 256, p.1 / 256 % 256, p.2 % 256, p.2 / 256 % 256⟩
def l4 (c : A4 Int) : List Int := [c.a0, c.a1, c.a2, c.a3]
theorem ent_c4 (p : Int × Int) : ent p = l4 (c4 p) := rfl
def CB (C : List (A4 Int)) : List Int := C.flatMap l4
theorem EB_CB (E : List (Int × Int)) : EB E = CB (E.map c4) := by
  unfold EB CB
  rw [List.flatMap_map]; rfl
theorem CB_length (C : List (A4 Int)) : (CB C).length = 4 * C.length := by
  unfold CB
  induction C with
  | nil => rfl
  | cons a l ih => rw [List.flatMap_cons, List.length_append, ih, List.length_cons]; simp only [l4, List.length_cons, List.length_nil]; omega
theorem split_at {α : Type} (l : List α) {p : Nat} (h : p < l.length) : l = l.take p ++ l[p] :: l.drop (p + 1) := by
  rw [List.getElem_cons_drop, List.take_append_drop]
def g4 (c : A4 Int) (j : Nat) : Int := match j with | 0 => c.a0 | 1 => c.a1 | 2 => c.a2 | _ => c.a3
def s4 (c : A4 Int) (j : Nat) (v : Int) : A4 Int := match j with | 0 => { c with a0 := v } | 1 => { c with a1 := v } | 2 => { c with a2 := v } | _ => { c with a3 := v }
theorem l4_get (c : A4 Int) {j : Nat} (hj : j < 4) : (l4 c)[j]? = some (g4 c j) := by
  match j, hj with
  | 0, _ => rfl
  | 1, _ => rfl
  | 2, _ => rfl
  | 3, _ => rfl
theorem l4_set (c : A4 Int) (v : Int) {j : Nat} (hj : j < 4) : (l4 c).set j v = l4 (s4 c j v) := by
  match j, hj with
  | 0, _ => rfl
  | 1, _ => rfl
  | 2, _ => rfl
  | 3, _ => rfl
theorem CB_split (C : List (A4 Int)) {p : Nat} (h : p < C.length) : CB C = CB (C.take p) ++ (l4 C[p] ++ CB (C.drop (p + 1))) := by
  conv => lhs; rw [split_at C h]
  unfold CB
  rw [List.flatMap_append, List.flatMap_cons]
/-- a byte of an entry -/
theorem get_c {H Z : List Int} (hH : H.length = 28) (C : List (A4 Int)) {p j : Nat} (h : p < C.length) (hj : j < 4) {i : Int} (hi : i = 28 + 4 * (p : Int) + (j : Int)) : idx (H ++ (CB C ++ Z)) i = some (g4 C[p] j) := by
  have t := CB_length (C.take p)
  rw [List.length_take] at t
  rw [CB_split C h, show H ++ (CB (C.take p) ++ (l4 C[p] ++ CB (C.drop (p + 1))) ++ Z) = (H ++ CB (C.take p)) ++ (l4 C[p] ++ (CB (C.drop (p + 1)) ++ Z)) from by simp only [List.append_assoc]]
  unfold idx
  have hn : i.toNat = (H ++ CB (C.take p)).length + j := by rw [List.length_append]; omega
  rw [if_pos (by omega), hn, List.getElem?_append_right (by omega), Nat.add_sub_cancel_left, List.getElem?_append_left (by simp [l4]; omega), l4_get _ hj]
theorem set_c {H Z : List Int} (hH : H.length = 28) (C : List (A4 Int)) {p j : Nat} (h : p < C.length) (hj : j < 4) {i : Int} (hi : i = 28 + 4 * (p : Int) + (j : Int)) (v : Int) :
    List.set (H ++ (CB C ++ Z)) i.toNat v = H ++ (CB (C.set p (s4 C[p] j v)) ++ Z) := by
  have t := CB_length (C.take p)
  rw [List.length_take] at t
  have hn : i.toNat = (H ++ CB (C.take p)).length + j := by rw [List.length_append]; omega
  have e2 : C.set p (s4 C[p] j v) = C.take p ++ s4 C[p] j v :: C.drop (p + 1) := by
    rw [List.set_eq_take_append_cons_drop, if_pos h]
  have e3 : CB (C.set p (s4 C[p] j v)) = CB (C.take p) ++ (l4 (s4 C[p] j v) ++ CB (C.drop (p + 1))) := by
    rw [e2]; unfold CB; rw [List.flatMap_append, List.flatMap_cons]
  rw [e3, CB_split C h, show H ++ (CB (C.take p) ++ (l4 C[p] ++ CB (C.drop (p + 1))) ++ Z) = (H ++ CB (C.take p)) ++ (l4 C[p] ++ (CB (C.drop (p + 1)) ++ Z)) from by simp only [List.append_assoc], hn,
    List.set_append_right _ _ (by omega), Nat.add_sub_cancel_left, List.set_append_left _ _ (by simp [l4]; omega), l4_set _ _ hj]
  simp only [List.append_assoc]
/-- the first j bytes of another entry, and the rest -/
def mix (j : Nat) (a b : A4 Int) : A4 Int := ⟨if 0 < j then b.a0 else a.a0, if 1 < j then b.a1 else a.a1, if 2 < j then b.a2 else a.a2, if 3 < j then b.a3 else a.a3⟩
theorem mix_same (j : Nat) (a : A4 Int) : mix j a a = a := by
  unfold mix; simp
theorem mix_get (a b : A4 Int) {j : Nat} (hj : j < 4) : g4 (mix j a b) j = g4 a j := by
  match j, hj with
  | 0, _ => rfl
  | 1, _ => rfl
  | 2, _ => rfl
  | 3, _ => rfl
theorem mix_set (a b : A4 Int) {j : Nat} (hj : j < 4) : s4 (mix j a b) j (g4 b j) = mix (j + 1) a b := by
  match j, hj with
  | 0, _ => rfl
  | 1, _ => rfl
  | 2, _ => rfl
  | 3, _ => rfl
theorem g4_s4 (c : A4 Int) (v : Int) {j : Nat} (hj : j < 4) : g4 (s4 c j v) j = v := by
  match j, hj with
  | 0, _ => rfl
  | 1, _ => rfl
  | 2, _ => rfl
  | 3, _ => rfl
theorem s4_g4 (c : A4 Int) {j : Nat} (hj : j < 4) : s4 c j (g4 c j) = c := by
  match j, hj with
  | 0, _ => rfl
  | 1, _ => rfl
  | 2, _ => rfl
  | 3, _ => rfl
/-- what stands behind j rounds -/
abbrev CJ (C : List (A4 Int)) (p q : Nat) (a b : A4 Int) (j : Nat) : List (A4 Int) := (C.set p (mix j a b)).set q (mix j b a)
theorem swap_loop {H Z : List Int} (hH : H.length = 28) (y : Image) (by2 : Int) (C : List (A4 Int)) (hC : C.length ≤ 6) {p q : Nat} (hp : p < C.length) (hq : q < C.length) :
    loopO (fun x : ((List Int) × Int) => hansomlaw44_MzOrder_l22 y x.1 by2 (28 + 4 * (p : Int)) (28 + 4 * (q : Int)) x.2) (H ++ (CB C ++ Z), 0) = some (H ++ (CB ((C.set p C[q]).set q C[p]) ++ Z)) := by
  have e0 : CJ C p q C[p] C[q] 0 = C := by
    unfold CJ
    have m0 : ∀ a b : A4 Int, mix 0 a b = a := fun a b => rfl
    rw [m0, m0, List.set_getElem_self, List.set_getElem_self]
  have e4 : CJ C p q C[p] C[q] 4 = (C.set p C[q]).set q C[p] := by
    unfold CJ
    have m4 : ∀ a b : A4 Int, mix 4 a b = b := fun a b => rfl
    rw [m4, m4]
  rw [← e4]
  conv => lhs; rw [← e0]
  have lj : ∀ j, (CJ C p q C[p] C[q] j).length = C.length := fun j => by unfold CJ; rw [List.length_set, List.length_set]
  have key := pre_loop (List.range 4) (fun xs => (H ++ (CB (CJ C p q C[p] C[q] xs.length) ++ Z), (xs.length : Int))) (fun _ => True) (f := fun x : ((List Int) × Int) => hansomlaw44_MzOrder_l22 y x.1 by2 (28 + 4 * (p : Int)) (28 + 4 * (q : Int)) x.2) (H ++ (CB (CJ C p q C[p] C[q] 4) ++ Z))
    (fun xs v ys e _ => .inl ⟨?_, trivial⟩) (fun _ => ?_) trivial
  · exact key
  · have hl := len_lt e
    rw [List.length_range] at hl
    show hansomlaw44_MzOrder_l22 y (H ++ (CB (CJ C p q C[p] C[q] xs.length) ++ Z)) by2 (28 + 4 * (p : Int)) (28 + 4 * (q : Int)) (xs.length : Int) = _
    rw [List.length_append]
    simp only [List.length_cons, List.length_nil, Nat.zero_add]
    generalize xs.length = j at hl
    have hpj : p < (CJ C p q C[p] C[q] j).length := by rw [lj]; exact hp
    have hqj : q < (CJ C p q C[p] C[q] j).length := by rw [lj]; exact hq
    have ep : (CJ C p q C[p] C[q] j)[p] = mix j C[p] C[q] := by
      show ((C.set p (mix j C[p] C[q])).set q (mix j C[q] C[p]))[p]'(by simpa using hp) = _
      rw [List.getElem_set, List.getElem_set]
      by_cases c : q = p
      · subst c; rw [if_pos rfl]
      · rw [if_neg c, if_pos rfl]
    have eq : (CJ C p q C[p] C[q] j)[q] = mix j C[q] C[p] := by
      show ((C.set p (mix j C[p] C[q])).set q (mix j C[q] C[p]))[q]'(by simpa using hq) = _
      rw [List.getElem_set, if_pos rfl]
    unfold hansomlaw44_MzOrder_l22
    have w1 : IntKind.wrap .i64 (28 + 4 * (q : Int) + (j : Int)) = 28 + 4 * (q : Int) + (j : Int) := wrap64 (by omega) (by omega)
    have w2 : IntKind.wrap .i64 (28 + 4 * (p : Int) + (j : Int)) = 28 + 4 * (p : Int) + (j : Int) := wrap64 (by omega) (by omega)
    rw [if_pos (by simp; omega), w1, w2, get_c hH _ hqj hl rfl, get_c hH _ hpj hl rfl, ep, eq, mix_get _ _ hl, mix_get _ _ hl]
    simp only [Option.bind_some]
    rw [set_c hH _ hpj hl rfl, ep, mix_set _ _ hl]
    have hq2 : q < ((CJ C p q C[p] C[q] j).set p (mix (j + 1) C[p] C[q])).length := by rw [List.length_set]; exact hqj
    rw [get_c hH _ hq2 hl rfl]
    simp only [Option.bind_some]
    rw [set_c hH _ hq2 hl rfl, wrap64 (n := (j : Int) + 1) (by omega) (by omega)]
    have : ((CJ C p q C[p] C[q] j).set p (mix (j + 1) C[p] C[q])).set q (s4 ((CJ C p q C[p] C[q] j).set p (mix (j + 1) C[p] C[q]))[q] j (g4 C[p] j)) = CJ C p q C[p] C[q] (j + 1) := by
      by_cases c : p = q
      · subst c
        rw [List.getElem_set, if_pos rfl]
        unfold CJ
        simp only [List.set_set, mix_same]
        rw [s4_g4 _ hl]
      · rw [List.getElem_set, if_neg c, eq, mix_set _ _ hl]
        unfold CJ
        rw [List.set_comm _ _ c, List.set_set, List.set_comm _ _ (fun h => c h.symm), List.set_set]
    rw [this]
    simp
  · show hansomlaw44_MzOrder_l22 y (H ++ (CB (CJ C p q C[p] C[q] (List.range 4).length) ++ Z)) by2 (28 + 4 * (p : Int)) (28 + 4 * (q : Int)) ((List.range 4).length : Int) = _
    unfold hansomlaw44_MzOrder_l22
    rw [if_neg (by simp)]; rfl
theorem shr64_8 (x : Int) : shrI .i64 x 8 = x / 256 := shr_eq (j := 8) (by decide)
theorem mzOrder_true (x : Image) (swap by_ : Int) (w0 : x.wf) (w1 : wfI .i64 swap) (w2 : wfI .i64 by_) : hansomlaw44_MzOrder x swap by_ = some true := by
  obtain ⟨y, hy, h⟩ := near_ok x w0
  have b1 := h.bl; have b2 := h.rl
  have awk : hansomlaw44_awake = some true := rfl
  unfold hansomlaw44_MzOrder
  rw [hy, Option.bind_some, awk]
  by_cases c2 : (y.Relocs.length : Int) < 2
  · rw [if_pos (by simpa using c2)]; rfl
  rw [if_neg (by simpa using c2), ref_write h, Option.bind_some, s2b_b2s (FB_wf h _)]
  have f255 : ∀ z : Int, bitsOp .and .i64 z 255 = z % 256 := fun z => and_mask' 8 (by omega) rfl
  rw [f255, f255, f255, shr64_8]
  have rem : ∀ a b : Int, 0 ≤ a → 0 < b → a ≤ 10000 → b ≤ 10000 → remI .i64 a b = some (a % b) := by
    intro a b ha hb _ _
    unfold remI
    rw [if_neg (by omega), Int.tmod_eq_emod_of_nonneg ha]
  rw [rem _ _ (by omega) (by omega) (by omega) (by omega), Option.bind_some, rem _ _ (by omega) (by omega) (by omega) (by omega), Option.bind_some]
  have hlen : (ents y).length = y.Relocs.length := by unfold ents; rw [List.length_map]
  have hP0 := Int.emod_nonneg (swap % 256) (b := (y.Relocs.length : Int)) (by omega)
  have hP1 := Int.emod_lt_of_pos (swap % 256) (b := (y.Relocs.length : Int)) (by omega)
  have hQ0 := Int.emod_nonneg (swap / 256 % 256) (b := (y.Relocs.length : Int)) (by omega)
  have hQ1 := Int.emod_lt_of_pos (swap / 256 % 256) (b := (y.Relocs.length : Int)) (by omega)
  generalize swap % 256 % (y.Relocs.length : Int) = P at hP0 hP1
  generalize swap / 256 % 256 % (y.Relocs.length : Int) = Q at hQ0 hQ1
  obtain ⟨p, rfl⟩ := Int.eq_ofNat_of_zero_le hP0
  obtain ⟨q, rfl⟩ := Int.eq_ofNat_of_zero_le hQ0
  rw [wrap64 (n := 4 * (p : Int)) (by omega) (by omega), wrap64 (n := 28 + 4 * (p : Int)) (by omega) (by omega), wrap64 (n := 4 * (q : Int)) (by omega) (by omega), wrap64 (n := 28 + 4 * (q : Int)) (by omega) (by omega)]
  have hp : p < (ents y).length := by omega
  have hq : q < (ents y).length := by omega
  have hpc : p < ((ents y).map c4).length := by rw [List.length_map]; exact hp
  have hqc : q < ((ents y).map c4).length := by rw [List.length_map]; exact hq
  have hH := HB_length y
  have eF : FB y (ents y) = HB y ++ (CB ((ents y).map c4) ++ (PD y ++ y.Bytes)) := by unfold FB; rw [EB_CB]
  rw [eF, swap_loop hH y by_ _ (by rw [List.length_map]; omega) hpc hqc, Option.bind_some]
  -- the entries now
  have eC : (((ents y).map c4).set p ((ents y).map c4)[q]).set q ((ents y).map c4)[p] = (((ents y).set p (ents y)[q]).set q (ents y)[p]).map c4 := by
    rw [List.getElem_map, List.getElem_map, List.map_set, List.map_set]
  rw [eC]
  have hperm := perm_swap (ents y) hp hq
  generalize hE : ((ents y).set p (ents y)[q]).set q (ents y)[p] = E at hperm
  have hEl : E.length = y.Relocs.length := by rw [hperm.length_eq, hlen]
  have hpE : p < E.length := by omega
  have hpEc : p < (E.map c4).length := by rw [List.length_map]; exact hpE
  have hin : ∀ e ∈ E, (0 ≤ e.1 ∧ e.1 ≤ 15) ∧ 0 ≤ e.2 ∧ e.2 ≤ 40 := by
    intro e he
    obtain ⟨z, hz, rfl⟩ := List.mem_map.1 (hperm.mem_iff.1 he)
    have := h.rr z hz
    simp only; omega
  have hep := hin E[p] (List.getElem_mem hpE)
  have ec : (E.map c4)[p] = c4 E[p] := List.getElem_map _
  obtain ⟨⟨o, s⟩, ho⟩ : ∃ os : Int × Int, E[p] = os := ⟨_, rfl⟩
  rw [ho] at hep ec
  simp only at hep
  have i2 : idx (HB y ++ (CB (E.map c4) ++ (PD y ++ y.Bytes))) (28 + 4 * (p : Int) + 2) = some s := by
    rw [get_c hH _ hpEc (j := 2) (by omega) (by omega), ec]
    show some (s % 256) = some s
    congr 1; omega
  have i3 : idx (HB y ++ (CB (E.map c4) ++ (PD y ++ y.Bytes))) (28 + 4 * (p : Int) + 3) = some 0 := by
    rw [get_c hH _ hpEc (j := 3) (by omega) (by omega), ec]
    show some (s / 256 % 256) = some 0
    congr 1; omega
  have i0 : idx (HB y ++ (CB (E.map c4) ++ (PD y ++ y.Bytes))) (28 + 4 * (p : Int)) = some o := by
    rw [get_c hH _ hpEc (j := 0) (by omega) (by omega), ec]
    show some (o % 256) = some o
    congr 1; omega
  have i1 : idx (HB y ++ (CB (E.map c4) ++ (PD y ++ y.Bytes))) (28 + 4 * (p : Int) + 1) = some 0 := by
    rw [get_c hH _ hpEc (j := 1) (by omega) (by omega), ec]
    show some (o / 256 % 256) = some 0
    congr 1; omega
  rw [wrap64 (n := 28 + 4 * (p : Int) + 2) (by omega) (by omega), wrap64 (n := 28 + 4 * (p : Int) + 3) (by omega) (by omega), wrap64 (n := 28 + 4 * (p : Int) + 1) (by omega) (by omega), i2, i3, i0, i1]
  simp only [Option.bind_some]
  have z0 : IntKind.wrap .i64 0 = 0 := rfl
  have ws : IntKind.wrap .i64 s = s := wrap64 (by omega) (by omega)
  have wo : IntKind.wrap .i64 o = o := wrap64 (by omega) (by omega)
  rw [z0, show (256 : Int) * 0 = 0 from rfl, z0, Int.add_zero, Int.add_zero, ws, ws, wo, wo, wrap64 (n := s + 1) (by omega) (by omega), rem _ _ (by omega) (by omega) (by omega) (by omega), Option.bind_some]
  have hL0 := Int.emod_nonneg (by_ % 256) (b := s + 1) (by omega)
  have hL1 := Int.emod_lt_of_pos (by_ % 256) (b := s + 1) (by omega)
  generalize by_ % 256 % (s + 1) = L at hL0 hL1
  rw [wrap64 (n := 16 * L) (by omega) (by omega), wrap64 (n := o + 16 * L) (by omega) (by omega), wrap64 (n := s - L) (by omega) (by omega), shr64_8, shr64_8]
  -- the bytes that are written
  have k0 := set_c (Z := PD y ++ y.Bytes) hH (E.map c4) hpEc (j := 0) (by omega) (i := 28 + 4 * (p : Int)) (by omega) (IntKind.wrap .u8 (o + 16 * L))
  rw [k0]
  have hp1 : p < ((E.map c4).set p (s4 (E.map c4)[p] 0 (IntKind.wrap .u8 (o + 16 * L)))).length := by rw [List.length_set]; exact hpEc
  rw [get_c hH _ hp1 (j := 1) (by omega) (by omega), Option.bind_some, set_c hH _ hp1 (j := 1) (by omega) (by omega), List.getElem_set, if_pos rfl, List.set_set]
  have hp2 : ∀ c : A4 Int, p < ((E.map c4).set p c).length := fun c => by rw [List.length_set]; exact hpEc
  rw [get_c hH _ (hp2 _) (j := 2) (by omega) (by omega), Option.bind_some, set_c hH _ (hp2 _) (j := 2) (by omega) (by omega), List.getElem_set, if_pos rfl, List.set_set,
    get_c hH _ (hp2 _) (j := 3) (by omega) (by omega), Option.bind_some, set_c hH _ (hp2 _) (j := 3) (by omega) (by omega), List.getElem_set, if_pos rfl, List.set_set]
  have ecell : s4 (s4 (s4 (s4 (E.map c4)[p] 0 (IntKind.wrap .u8 (o + 16 * L))) 1 (IntKind.wrap .u8 ((o + 16 * L) / 256))) 2 (IntKind.wrap .u8 (s - L))) 3 (IntKind.wrap .u8 ((s - L) / 256)) = c4 (o + 16 * L, s - L) := by
    show (⟨_, _, _, _⟩ : A4 Int) = _
    rw [wrap_u8', wrap_u8', wrap_u8', wrap_u8']
    rfl
  rw [ecell, ← List.map_set, ← EB_CB]
  have hE2 : ((E.set p (o + 16 * L, s - L)).map lin).Perm y.Relocs := by
    have e1 : (E.set p (o + 16 * L, s - L)).map lin = E.map lin := by
      rw [List.map_set]
      have : lin (o + 16 * L, s - L) = (E.map lin)[p]'(by rw [List.length_map]; exact hpE) := by
        rw [List.getElem_map, ho]
        unfold lin; simp only; omega
      rw [this, List.set_getElem_self]
    rw [e1]
    exact (hperm.map lin).trans (ents_perm y)
  have hin2 : ∀ e ∈ E.set p (o + 16 * L, s - L), (0 ≤ e.1 ∧ e.1 ≤ 65535) ∧ 0 ≤ e.2 ∧ e.2 ≤ 65535 := by
    intro e he
    rcases List.mem_or_eq_of_mem_set he with he | rfl
    · have := hin e he; omega
    · simp only; omega
  have hr := read_ok h (E.set p (o + 16 * L, s - L)) hE2 hin2 [] (by simp)
  rw [List.append_nil] at hr
  unfold FB at hr
  rw [hr, Option.bind_some]
  simp only [Option.bind_some, if_true, beq_self_eq_true, same_ok y h]
end Go.Es.Mzb
