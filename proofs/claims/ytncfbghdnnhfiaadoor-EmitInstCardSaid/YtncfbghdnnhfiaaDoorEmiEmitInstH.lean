/- EmitInst answers true, in plain Lean. No condition. -/
import Derived.Test.YtncfbghdnnhfiaaDoorEmiH
set_option linter.unusedVariables false
set_option linter.unusedSimpArgs false
set_option maxHeartbeats 4000000
set_option maxRecDepth 100000
namespace Go.Es.Emi
/-! ### choices -/
theorem look_all (p : Nat × Nat × Nat → Bool) (h : LIT.all (fun l => l.all p) = true) (h0 : p (0, 0, 0) = true) (op k : Nat) : p (look op k) = true := by
  rw [List.all_eq_true] at h
  unfold look
  cases hl : LIT[op]? with
  | none => exact h0
  | some l =>
    have h1 := h l (List.mem_of_getElem? hl)
    rw [List.all_eq_true] at h1
    have g : ∀ j, p (l.getD j (0, 0, 0)) = true := fun j => by
      rw [List.getD_eq_getElem?_getD]
      cases hj : l[j]? with
      | none => exact h0
      | some x => exact h1 x (List.mem_of_getElem? hj)
    simp only
    split
    · exact g 0
    · exact g k
def tblE (x : Nat × Nat × Nat) : Bool := (x.2.1 != 9 || bytI x.2.2 == 0) && ((x.2.1 != 10 || bytI x.2.2 == 0) && (x.2.2 != 7 || bytI x.2.1 == 0))
theorem tblE_ok : LIT.all (fun l => l.all tblE) = true := by decide +kernel
theorem row_E (op reg : Int) (h : (rowI op reg).2 = true) : ((rowI op reg).1.A = 9 → bytI (rowI op reg).1.B = 0) ∧ ((rowI op reg).1.A = 10 → bytI (rowI op reg).1.B = 0) ∧ ((rowI op reg).1.B = 7 → bytI (rowI op reg).1.A = 0) := by
  have hl := look_all tblE tblE_ok (by decide) op.toNat (reg % 8).toNat
  unfold rowI at h ⊢
  cases hp : isP op.toNat with
  | true => rw [hp] at h; simp at h
  | false =>
    rw [hp] at h
    simp only [Bool.false_eq_true, if_false] at h ⊢
    generalize look op.toNat (reg % 8).toNat = x at *
    unfold rw' at h ⊢
    split at h
    · cases h
    · rename_i hx
      rw [if_neg hx]
      simp only
      simp only [tblE, Bool.and_eq_true, Bool.or_eq_true, bne_iff_ne, beq_iff_eq] at hl
      obtain ⟨l1, l2, l3⟩ := hl
      refine ⟨fun e => ?_, fun e => ?_, fun e => ?_⟩
      · rcases l1 with l | l
        · omega
        · exact l
      · rcases l2 with l | l
        · omega
        · exact l
      · rcases l3 with l | l
        · omega
        · exact l
def byI (f : Int) : Int := if f == 2 then 1 else if f == 3 then 2 else 0
theorem by_spec (f : Int) : emit_By f = some (byI f) := by
  unfold emit_By byI
  cases (f == 2) <;> cases (f == 3) <;> rfl
theorem fix0 (a l : Int) (v : api_Value) : emit_Fix a l v 0 0 = some ⟨a, l, false, 5, 0, byI v.From, v.Which, IntKind.wrap .u16 v.N⟩ := by
  unfold emit_Fix; rw [by_spec, by_spec]; rfl
theorem fix2 (a l : Int) (v : api_Value) : emit_Fix a l v 2 4 = some ⟨a, l, false, 1, 4, byI v.From, v.Which, IntKind.wrap .u16 v.N⟩ := by
  unfold emit_Fix; rw [by_spec, by_spec]; rfl
def mI (i : Inst) : Int := bytI (rowI i.Op i.Reg).1.A + bytI (rowI i.Op i.Reg).1.B
def pre (i : Inst) : List Int := aheadL i ++ ([i.Op] ++ modL i (rowI i.Op i.Reg).1)
theorem put_split (i : Inst) : putL i = pre i ++ behL i (mI i) := by simp [putL, pre, mI]
theorem mI_lo (i : Inst) (hm : mayB i = true) : mI i = 0 ∨ mI i = 1 ∨ mI i = 2 ∨ mI i = 4 := by
  have hf := (row_facts i.Op i.Reg (mayB_facts i hm).1).2.1
  unfold mI; omega
theorem pre_len (i : Inst) (hm : mayB i = true) : ((pre i).length : Int) = lenI i - mI i := by
  have h := putL_len i hm
  have hb := behL_len i (mI i) (mI_lo i hm)
  rw [put_split, List.length_append, Int.natCast_add] at h
  omega
theorem pre_lo (i : Inst) (hm : mayB i = true) : 1 ≤ lenI i - mI i ∧ lenI i - mI i ≤ 7 := by
  have h := pre_len i hm
  have h1 := aheadL_len i; have h2 := modL_len i (rowI i.Op i.Reg).1
  unfold pre at h
  simp only [List.length_append, List.length_singleton] at h
  omega
theorem put_ok (i : Inst) (h : okI i) (hm : mayB i = true) : code_Put i = some (putL i, 0) := by rw [putC i h, hm]; rfl
theorem start (c : Choice) (hy : okI c.I) (hm : mayB c.I = true) (hD : c.HasD = false) (s o f w : Int) : emit_Inst c s o f w = emit_Inst_j20 c c.I (rowI c.I.Op c.I.Reg).1 [] s o f w (lenI c.I) (lenI c.I - mI c.I) := by
  unfold emit_Inst
  rw [instLen _ hy, Option.bind_some, instRow _ hy.1, Option.bind_some, instTail _ hy, Option.bind_some, hm, hD]
  rfl
theorem E1 (y : Inst) (d im : api_Value) (hy : okI y) (hm : mayB y = true) (s o f w : Int) : emit_Inst ⟨y, d, im, false, false, false⟩ s o f w = some (putL y, [], true) := by
  rw [start _ hy hm rfl]
  unfold emit_Inst_j20 emit_Inst_j24 emit_Inst_j60
  simp only [Bool.false_eq_true, if_false]
  rw [put_ok y hy hm]; rfl
theorem E2o (y : Inst) (d : api_Value) (N ty wa : Int) (hy : okI y) (hm : mayB y = true) (o f w : Int) : emit_Inst ⟨y, d, ⟨N, 1, 2, ty, wa, true⟩, false, true, true⟩ 1 o f w = some ([], [], false) := by
  rw [start _ hy hm rfl]; rfl
theorem E2 (y : Inst) (d : api_Value) (N ty wa : Int) (hy : okI y) (hm : mayB y = true) (o f w : Int) : emit_Inst ⟨y, d, ⟨N, 1, 1, ty, wa, true⟩, false, true, true⟩ 1 o f w =
    (if mI y = 1 ∧ (IntKind.wrap .i64 (IntKind.wrap .i64 (N - o) - lenI y) < -128 ∨ IntKind.wrap .i64 (IntKind.wrap .i64 (N - o) - lenI y) > 127) then some ([], [], false)
      else (code_Put { y with Imm := IntKind.wrap .u16 (IntKind.wrap .i64 (IntKind.wrap .i64 (N - o) - lenI y)) }).bind fun q => some (q.1, [], q.2 == 0)) := by
  rw [start _ hy hm rfl]
  unfold emit_Inst_j20 emit_Inst_j24 emit_Inst_j49
  simp only [if_true, Bool.not_true, Bool.false_eq_true, if_false, show ((1 : Int) == 3) = false from rfl, beq_self_eq_true, bne_self_eq_false, imms_spec, Option.bind_some]
  generalize IntKind.wrap .i64 (IntKind.wrap .i64 (N - o) - lenI y) = D
  have e : bytI (rowI y.Op y.Reg).1.A + bytI (rowI y.Op y.Reg).1.B = mI y := rfl
  rw [e]
  by_cases h1 : mI y = 1
  · rw [if_pos (by simpa using h1)]
    by_cases a : D < -128
    · rw [if_pos (by simpa using a), if_pos ⟨h1, .inl a⟩]
    · by_cases b : D > 127
      · rw [if_neg (by simpa using a), if_pos (by simpa using b), if_pos ⟨h1, .inr b⟩]
      · rw [if_neg (by simpa using a), if_neg (by simpa using b), if_neg (by omega)]
  · rw [if_neg (by simpa using h1), if_neg (by omega)]
theorem E3 (y : Inst) (d : api_Value) (N ty wa : Int) (kn : Bool) (hy : okI y) (hm : mayB y = true) (o f w : Int) : emit_Inst ⟨y, d, ⟨N, 3, 3, ty, wa, kn⟩, false, true, true⟩ 1 o f w =
    (if mI y = 2 then some (putL y, [⟨lenI y - mI y, 1, true, 5, 0, 2, 3, IntKind.wrap .u16 N⟩], true) else some ([], [], false)) := by
  rw [start _ hy hm rfl]
  unfold emit_Inst_j20 emit_Inst_j24
  simp only [if_true, beq_self_eq_true, fix0, Option.bind_some, imms_spec]
  have e : bytI (rowI y.Op y.Reg).1.A + bytI (rowI y.Op y.Reg).1.B = mI y := rfl
  rw [e, grow_eq (by simp) (by simp), Option.bind_some]
  by_cases h1 : mI y = 2
  · rw [if_neg (by simpa using h1), if_pos h1, put_ok y hy hm]; rfl
  · rw [if_pos (by simpa using h1), if_neg h1]
theorem E4 (y : Inst) (im : api_Value) (N ty wa : Int) (kn : Bool) (hy : okI y) (hm : mayB y = true) (s o : Int) : emit_Inst ⟨y, ⟨N, 1, 2, ty, wa, kn⟩, im, true, false, false⟩ s o 2 4 =
    (code_Put { y with Disp := 0 }).bind fun q => some (q.1, [⟨IntKind.wrap .i64 (lenI y - mI y - 2), 1, false, 1, 4, 0, 2, IntKind.wrap .u16 N⟩], q.2 == 0) := by
  unfold emit_Inst
  simp only
  rw [instLen _ hy, Option.bind_some, instRow _ hy.1, Option.bind_some, instTail _ hy, Option.bind_some, hm]
  unfold value_Plain
  simp only [if_true, show ((1 : Int) == 0) = false from rfl, Bool.false_eq_true, if_false, Option.bind_some, Bool.not_false, fix2]
  rw [grow_eq (by simp) (by simp), Option.bind_some]
  rfl
theorem E5 (y : Inst) (d : api_Value) (N ty wa : Int) (kn : Bool) (hy : okI y) (hm : mayB y = true) (hA : (rowI y.Op y.Reg).1.A ≠ 11) (s o : Int) : emit_Inst ⟨y, d, ⟨N, 1, 2, ty, wa, kn⟩, false, true, false⟩ s o 0 0 =
    (code_Put { y with Imm := 0 }).bind fun q => some (q.1, [⟨lenI y - mI y, if wa == 2 then 2 else 1, false, 5, 0, 0, 2, IntKind.wrap .u16 N⟩], q.2 == 0) := by
  rw [start _ hy hm rfl]
  have hA' : ((rowI y.Op y.Reg).1.A == 11) = false := by simpa using hA
  have him : emit_imm ⟨y, d, ⟨N, 1, 2, ty, wa, kn⟩, false, true, false⟩ (rowI y.Op y.Reg).1 (lenI y - mI y) 0 0 = some ⟨lenI y - mI y, if wa == 2 then 2 else 1, false, 5, 0, 0, 2, IntKind.wrap .u16 N⟩ := by
    unfold emit_imm
    simp only [fix0, Option.bind_some]
    cases (wa == 2) <;> cases ((rowI y.Op y.Reg).1.A == 12) <;> cases ((rowI y.Op y.Reg).1.A == 13) <;> cases ((rowI y.Op y.Reg).1.B == 12) <;> cases ((rowI y.Op y.Reg).1.B == 13) <;> rfl
  unfold emit_Inst_j20 emit_Inst_j24 emit_Inst_j60 value_Plain
  simp only [Bool.false_eq_true, if_false, if_true, hA', show ((1 : Int) == 0) = false from rfl, Option.bind_some, Bool.not_false, him]
  rw [grow_eq (by simp) (by simp), Option.bind_some]
  rfl
theorem idx_app (P B : List Int) (j : Nat) (T : Int) (hT : (P.length : Int) + j = T) (h : j < B.length) : idx (P ++ B) T = some B[j] := by
  subst hT
  unfold idx
  rw [if_pos (by omega)]
  have : ((P.length : Int) + (j : Int)).toNat = P.length + j := by omega
  rw [this, List.getElem?_append_right (by omega), Nat.add_sub_cancel_left, List.getElem?_eq_getElem h]
theorem may_imm (y : Inst) (v : Int) (hm : mayB y = true) (hb : behB { y with Imm := v } (rowI y.Op y.Reg).1 = true) : mayB { y with Imm := v } = true := by
  unfold mayB at hm ⊢
  simp only [Bool.and_eq_true] at hm ⊢
  exact ⟨hm.1, hm.2.1, hb, hm.2.2.2⟩
theorem beh_of (y : Inst) (hm : mayB y = true) : behB y (rowI y.Op y.Reg).1 = true := by
  unfold mayB at hm
  simp only [Bool.and_eq_true] at hm
  exact hm.2.2.1
theorem awake37 : hansomlaw37_awake = some true := by
  have e1 : ∀ a l v, emit_Fix a l v 0 0 = some ⟨a, l, false, 5, 0, byI v.From, v.Which, IntKind.wrap .u16 v.N⟩ := fix0
  unfold hansomlaw37_awake
  have w1 : emit_Word ⟨4660, 0, 0, 0, 0, true⟩ = some ([52, 18], []) := by
    unfold emit_Word value_Plain
    simp only [beq_self_eq_true, if_true, Option.bind_some, low_spec]
    rw [wrapu16 (by omega) (by omega), high_spec (by omega) (by omega)]; rfl
  have w2 : emit_Word ⟨0, 3, 2, 0, 1, false⟩ = some ([0, 0], [⟨0, 1, false, 5, 0, 2, 2, 0⟩]) := by
    unfold emit_Word value_Plain
    simp only [show ((3 : Int) == 0) = false from rfl, show ((1 : Int) == 2) = false from rfl, Bool.false_eq_true, if_false, Option.bind_some, fix0]
    rw [mk_eq (by omega) (by omega) (by omega)]; rfl
  rw [w1, Option.bind_some, w2, Option.bind_some]
  rfl
/-- A jump's number. -/
theorem jump_may (y : Inst) (D : Int) (hy : okI y) (hm : mayB y = true) (hA : (rowI y.Op y.Reg).1.A = 9 ∧ -128 ≤ D ∧ D ≤ 127 ∨ (rowI y.Op y.Reg).1.A = 10) : mayB { y with Imm := IntKind.wrap .u16 D } = true := by
  have hb := beh_of y hm
  refine may_imm y _ hm ?_
  unfold behB at hb ⊢
  rw [wrap_u16']
  rcases hA with ⟨h9, d1, d2⟩ | h10
  · rw [h9] at hb ⊢
    have e : (if bytI 9 == 0 then (rowI y.Op y.Reg).1.B else 9) = 9 := rfl
    rw [e] at hb ⊢
    unfold stepB at hb ⊢
    simp at hb ⊢
    refine ⟨?_, hb.2⟩
    simp only [fitB, Bool.or_eq_true, decide_eq_true_eq]
    omega
  · rw [h10] at hb ⊢
    have e : (if bytI 10 == 0 then (rowI y.Op y.Reg).1.B else 10) = 10 := rfl
    rw [e] at hb ⊢
    unfold stepB at hb ⊢
    simp at hb ⊢
    exact hb
theorem ext55 (y : Inst) (d : api_Value) (N o : Int) (hy : okI y) (hm : mayB y = true) (h : (rowI y.Op y.Reg).1.A = 9 ∧ mI y = 1 ∨ (rowI y.Op y.Reg).1.A = 10 ∧ mI y = 2) :
    hansomlaw37_EmitInst_j55 (rowI y.Op y.Reg).1 ⟨y, d, ⟨N, 1, 1, 0, 0, true⟩, false, true, true⟩ (putL y) (lenI y - mI y) o = some true := by
  unfold hansomlaw37_EmitInst_j55
  simp only
  rw [E2o y d N 0 0 hy hm, Option.bind_some, E3 y d 0 0 0 true hy hm, awake37]
  rcases h with ⟨h1, h2⟩ | ⟨h1, h2⟩
  · rw [h1, h2]; rfl
  · rw [h1, h2]
    simp [idx]
theorem j47 (y : Inst) (d : api_Value) (N o D : Int) (hy : okI y) (hm : mayB y = true) (h : (rowI y.Op y.Reg).1.A = 9 ∧ mI y = 1 ∧ -128 ≤ D ∧ D ≤ 127 ∨ (rowI y.Op y.Reg).1.A = 10 ∧ mI y = 2) :
    hansomlaw37_EmitInst_j47 (rowI y.Op y.Reg).1 ⟨y, d, ⟨N, 1, 1, 0, 0, true⟩, false, true, true⟩ (putL y) (mI y) (lenI y - mI y) o D (putL { y with Imm := IntKind.wrap .u16 D }) [] true = some true := by
  have hp := pre_len y hm
  have hlo := pre_lo y hm
  have hx := ext55 y d N o hy hm (by omega)
  have hs : putL { y with Imm := IntKind.wrap .u16 D } = pre y ++ behL { y with Imm := IntKind.wrap .u16 D } (mI y) := put_split { y with Imm := IntKind.wrap .u16 D }
  have hlen : (putL { y with Imm := IntKind.wrap .u16 D }).length = (putL y).length := by
    have a := behL_len y (mI y) (mI_lo y hm); have b := behL_len { y with Imm := IntKind.wrap .u16 D } (mI y) (mI_lo y hm)
    rw [hs, put_split y, List.length_append, List.length_append]; omega
  unfold hansomlaw37_EmitInst_j47
  rw [hlen, hx, hs]
  simp only [Bool.not_true, Bool.false_eq_true, if_false, List.length_nil, bne_self_eq_false, show (((0 : Nat) : Int) != 0) = false from rfl]
  rcases h with ⟨_, h2, _, _⟩ | ⟨_, h2⟩
  · have hb : behL { y with Imm := IntKind.wrap .u16 D } (mI y) = [IntKind.wrap .u16 D % 256] := by rw [h2]; rfl
    rw [hb, idx_app (pre y) _ 0 _ (by omega) (by simp), Option.bind_some, h2]
    have e : ([IntKind.wrap .u16 D % 256][0] : Int) = IntKind.wrap .u8 D := by simp only [List.getElem_cons_zero]; rw [wrap_u16', wrap_u8']; omega
    rw [e]; simp
  · have hb : behL { y with Imm := IntKind.wrap .u16 D } (mI y) = [IntKind.wrap .u16 D % 256, IntKind.wrap .u16 D / 256] := by rw [h2]; rfl
    have hsh : shrI .i64 D 8 = D / 256 := shr_eq (j := 8) (by decide)
    rw [hb, idx_app (pre y) _ 0 _ (by omega) (by simp), Option.bind_some, idx_app (pre y) _ 1 (IntKind.wrap .i64 (lenI y - mI y + 1)) (by rw [wrap64 (by omega) (by omega)]; omega) (by simp), Option.bind_some, h2, hsh]
    have e : ([IntKind.wrap .u16 D % 256, IntKind.wrap .u16 D / 256][0] : Int) = IntKind.wrap .u8 D := by simp only [List.getElem_cons_zero]; rw [wrap_u16', wrap_u8']; omega
    have e2 : ([IntKind.wrap .u16 D % 256, IntKind.wrap .u16 D / 256][1] : Int) = IntKind.wrap .u8 (D / 256) := by simp only [List.getElem_cons_succ, List.getElem_cons_zero]; rw [wrap_u16', wrap_u8']; omega
    rw [e, e2]; simp
theorem j78 (y : Inst) (dd : api_Value) (n o : Int) (hy : okI y) (hm : mayB y = true) (im : api_Value) (h : (rowI y.Op y.Reg).1.A = 7 ∨ (rowI y.Op y.Reg).1.B = 7) :
    hansomlaw37_EmitInst_j78 ⟨bitsOp .and .i64 n 65535, 1, 2, 0, 0, true⟩ ⟨y, dd, im, false, false, false⟩ n (lenI y - mI y) o true = some true := by
  have hE := row_E y.Op y.Reg (mayB_facts y hm).1
  have lA := bytI_lo (rowI y.Op y.Reg).1.A; have lB := bytI_lo (rowI y.Op y.Reg).1.B
  have hb := beh_of y hm
  have b7 : bytI 7 = 2 := rfl
  have b11 : bytI 11 = 4 := rfl
  have hk : (if bytI (rowI y.Op y.Reg).1.A == 0 then (rowI y.Op y.Reg).1.B else (rowI y.Op y.Reg).1.A) = 7 := by
    rcases h with h | h
    · rw [h]; rfl
    · rw [hE.2.2 h, h]; rfl
  have hA : (rowI y.Op y.Reg).1.A ≠ 11 := by
    intro e
    rcases h with h | h
    · rw [h] at e; cases e
    · have := hE.2.2 h; rw [e] at this; rw [b11] at this; cases this
  have hmm : mI y = 2 ∨ mI y = 4 := by
    have hlo := mI_lo y hm
    unfold mI at hlo ⊢
    rcases h with h | h
    · rw [h, b7] at hlo ⊢; omega
    · rw [h, b7, hE.2.2 h]; omega
  have hm0 : mayB { y with Imm := 0 } = true := by
    refine may_imm y 0 hm ?_
    unfold behB at hb ⊢
    rw [hk] at hb ⊢
    unfold stepB at hb ⊢
    simp at hb ⊢
    exact hb
  have hy0 : okI { y with Imm := 0 } := ⟨hy.1, hy.2.1, by simp, hy.2.2.2⟩
  have hp := pre_len y hm
  have hlo := pre_lo y hm
  have hs : putL { y with Imm := 0 } = pre y ++ behL { y with Imm := 0 } (mI y) := put_split { y with Imm := 0 }
  have i0 : idx (putL { y with Imm := 0 }) (lenI y - mI y) = some 0 := by
    rw [hs]
    rcases hmm with e | e
    · rw [e]; exact idx_app (pre y) _ 0 _ (by omega) (by simp [behL, twoI])
    · rw [e]; exact idx_app (pre y) _ 0 _ (by omega) (by simp [behL, twoI])
  have i1 : idx (putL { y with Imm := 0 }) (IntKind.wrap .i64 (lenI y - mI y + 1)) = some 0 := by
    rw [hs, wrap64 (by omega) (by omega)]
    rcases hmm with e | e
    · rw [e]; exact idx_app (pre y) _ 1 _ (by omega) (by simp [behL, twoI])
    · rw [e]; exact idx_app (pre y) _ 1 _ (by omega) (by simp [behL, twoI])
  have hw : IntKind.wrap .u16 (bitsOp .and .i64 n 65535) = IntKind.wrap .u16 n := by
    have : bitsOp .and .i64 n 65535 = n % 65536 := and_mask n 16 (by omega)
    rw [this, wrap_u16', wrap_u16']; omega
  have j93 : ∀ loc : Int, hansomlaw37_EmitInst_j93 n (lenI y - mI y) (putL { y with Imm := 0 }) [⟨lenI y - mI y, loc, false, 5, 0, 0, 2, IntKind.wrap .u16 (bitsOp .and .i64 n 65535)⟩] true loc = some true := by
    intro loc
    unfold hansomlaw37_EmitInst_j93
    rw [awake37, Option.bind_some, i0, i1, hw]
    simp [idx]
  unfold hansomlaw37_EmitInst_j78
  simp only [if_true]
  rw [E5 y dd _ 0 _ true hy hm hA, put_ok _ hy0 hm0]
  simp only [Option.bind_some, beq_self_eq_true]
  split
  · exact j93 2
  · exact j93 1
theorem j68 (y : Inst) (dd im : api_Value) (n o : Int) (hy : okI y) (hm : mayB y = true) (t : Bool) (ht : t = true → (rowI y.Op y.Reg).1.Mod = true ∧ dispI y.Mod y.RM = 2) :
    hansomlaw37_EmitInst_j68 (rowI y.Op y.Reg).1 ⟨bitsOp .and .i64 n 65535, 1, 2, 0, 0, true⟩ ⟨y, dd, im, false, false, false⟩ n (putL y) (lenI y - mI y) o t = some true := by
  unfold hansomlaw37_EmitInst_j68
  cases t with
  | false =>
    simp only [Bool.false_eq_true, if_false]
    cases h7 : ((rowI y.Op y.Reg).1.A == 7) with
    | true => simp only [if_true]; exact j78 y dd n o hy hm im (.inl (by simpa using h7))
    | false =>
      simp only [Bool.false_eq_true, if_false]
      cases h8 : ((rowI y.Op y.Reg).1.B == 7) with
      | true => exact j78 y dd n o hy hm im (.inr (by simpa using h8))
      | false =>
        unfold hansomlaw37_EmitInst_j78
        simp only [Bool.false_eq_true, if_false, awake37, Option.bind_some]
  | true =>
    obtain ⟨hM, hd⟩ := ht rfl
    have hm0 : mayB { y with Disp := 0 } = true := by
      unfold mayB at hm ⊢
      simp only [Bool.and_eq_true] at hm ⊢
      refine ⟨hm.1, ?_, hm.2.2.1, hm.2.2.2⟩
      have h2 := hm.2.1
      unfold secB at h2 ⊢
      simp only [hM, if_true, hd, Bool.and_eq_true] at h2 ⊢
      obtain ⟨a1, a2, a3, a4, a5, a6, a7, a8⟩ := h2
      exact ⟨a1, a2, a3, a4, a5, a6, a7, rfl⟩
    have hy0 : okI { y with Disp := 0 } := ⟨hy.1, by simp, hy.2.2.1, hy.2.2.2⟩
    have hp := pre_len y hm
    have hlo := pre_lo y hm
    have hq : pre { y with Disp := 0 } = (aheadL y ++ ([y.Op] ++ [64 * y.Mod + 8 * y.Reg + y.RM])) ++ [0, 0] := by
      show aheadL y ++ ([y.Op] ++ modL { y with Disp := 0 } (rowI y.Op y.Reg).1) = _
      unfold modL
      simp [hM, hd, twoI]
    have hq0 : pre y = (aheadL y ++ ([y.Op] ++ [64 * y.Mod + 8 * y.Reg + y.RM])) ++ twoI y.Disp := by
      unfold pre modL
      simp [hM, hd, twoI]
    have hql : ((aheadL y ++ ([y.Op] ++ [64 * y.Mod + 8 * y.Reg + y.RM])).length : Int) = lenI y - mI y - 2 := by
      rw [hq0, List.length_append, twoI_len] at hp; omega
    have hs : putL { y with Disp := 0 } = (aheadL y ++ ([y.Op] ++ [64 * y.Mod + 8 * y.Reg + y.RM])) ++ ([0, 0] ++ behL y (mI y)) := by
      rw [put_split { y with Disp := 0 }, hq, List.append_assoc]; rfl
    have hlen : (putL { y with Disp := 0 }).length = (putL y).length := by
      rw [hs, put_split y, hq0]; simp [twoI]
    have i1 : idx (putL { y with Disp := 0 }) (IntKind.wrap .i64 (lenI y - mI y - 1)) = some 0 := by
      rw [hs, wrap64 (by omega) (by omega)]; exact idx_app _ _ 1 _ (by omega) (by simp)
    have i0 : idx (putL { y with Disp := 0 }) (IntKind.wrap .i64 (lenI y - mI y - 2)) = some 0 := by
      rw [hs, wrap64 (by omega) (by omega)]; exact idx_app _ _ 0 _ (by omega) (by simp)
    have hw : IntKind.wrap .u16 (bitsOp .and .i64 n 65535) = IntKind.wrap .u16 n := by
      have : bitsOp .and .i64 n 65535 = n % 65536 := and_mask n 16 (by omega)
      rw [this, wrap_u16', wrap_u16']; omega
    simp only [if_true]
    rw [E4 y im _ 0 0 true hy hm, put_ok _ hy0 hm0]
    simp only [Option.bind_some, beq_self_eq_true, awake37, if_true, hlen, i1, i0, hw]
    simp [idx]
theorem emitInst_true (x : Inst) (a n : Int) (wx : Inst.wf x) (wa : wfI .i64 a) (wn : wfI .i64 n) : hansomlaw37_EmitInst x a n = some true := by
  obtain ⟨y, h1, hy, hm⟩ := near_spec x (okI_wf wx)
  have hr := (mayB_facts y hm).1
  have hE := row_E y.Op y.Reg hr
  have hp := pre_len y hm
  have hlo := pre_lo y hm
  have hmlo := mI_lo y hm
  have hl := putL_len y hm
  have hmI : bytI (rowI y.Op y.Reg).1.A + bytI (rowI y.Op y.Reg).1.B = mI y := rfl
  have hT : IntKind.wrap .i64 (((putL y).length : Int) - mI y) = lenI y - mI y := by rw [hl, wrap64 (by omega) (by omega)]
  unfold hansomlaw37_EmitInst
  rw [h1, Option.bind_some, refRow y hy.1, Option.bind_some, refPut y hy hm, Option.bind_some, E1 y _ _ hy hm, Option.bind_some, refImms, hmI]
  simp only [Bool.not_true, Bool.false_eq_true, if_false, bne_self_eq_false, List.length_nil, show (((0 : Nat) : Int) != 0) = false from rfl, Option.bind_some, hT]
  generalize bitsOp .and .i64 a 16383 = o
  have main : ∀ (dd im : api_Value) (t : Bool), t = decide ((rowI y.Op y.Reg).1.A = 9 ∨ (rowI y.Op y.Reg).1.A = 10) →
      hansomlaw37_EmitInst_j32 y (rowI y.Op y.Reg).1 ⟨bitsOp .and .i64 n 65535, 1, 2, 0, 0, true⟩ ⟨y, dd, im, false, false, false⟩ n (putL y) (mI y) (lenI y - mI y) o t = some true := by
    intro dd im t ht
    unfold hansomlaw37_EmitInst_j32
    cases t with
    | false =>
      simp only [Bool.false_eq_true, if_false, refDisps, Option.bind_some]
      cases hM : (rowI y.Op y.Reg).1.Mod with
      | false => simp only [Bool.false_eq_true, if_false]; exact j68 y dd im n o hy hm false (fun e => by cases e)
      | true =>
        simp only [if_true]
        exact j68 y dd im n o hy hm _ (fun e => ⟨hM, by simpa using e⟩)
    | true =>
      have hA : (rowI y.Op y.Reg).1.A = 9 ∨ (rowI y.Op y.Reg).1.A = 10 := by simpa using ht.symm
      have b9 : bytI 9 = 1 := rfl
      have b10 : bytI 10 = 2 := rfl
      simp only [if_true, awake37, Option.bind_some]
      rw [E2 y dd _ 0 0 hy hm, hl]
      generalize IntKind.wrap .i64 (IntKind.wrap .i64 (o + bitsOp .and .i64 n 1023) - 512) = N
      generalize hD : IntKind.wrap .i64 (IntKind.wrap .i64 (N - o) - lenI y) = D
      have ok' : okI { y with Imm := IntKind.wrap .u16 D } := ⟨hy.1, hy.2.1, by simp only; rw [wrap_u16']; omega, hy.2.2.2⟩
      rcases hA with h9 | h10
      · have m1 : mI y = 1 := by unfold mI; rw [hE.1 h9, h9]; rfl
        have g9 : ((rowI y.Op y.Reg).1.A == 9) = true := by rw [h9]; rfl
        by_cases d1 : D < -128
        · rw [if_pos ⟨m1, .inl d1⟩, Option.bind_some, if_pos g9, if_pos (by simpa using d1)]; rfl
        · by_cases d2 : D > 127
          · rw [if_pos ⟨m1, .inr d2⟩, Option.bind_some, if_pos g9, if_neg (by simpa using d1), if_pos (by simpa using d2)]; rfl
          · rw [if_neg (by omega), put_ok _ ok' (jump_may y D hy hm (.inl ⟨h9, by omega, by omega⟩)), Option.bind_some, Option.bind_some, if_pos g9, if_neg (by simpa using d1), if_neg (by simpa using d2)]
            exact j47 y dd N o D hy hm (.inl ⟨h9, m1, by omega, by omega⟩)
      · have m2 : mI y = 2 := by unfold mI; rw [hE.2.1 h10, h10]; rfl
        rw [if_neg (by rw [m2]; omega), put_ok _ ok' (jump_may y D hy hm (.inr h10)), Option.bind_some, Option.bind_some, if_neg (by simp [h10])]
        exact j47 y dd N o D hy hm (.inr ⟨h10, m2⟩)
  cases h9 : ((rowI y.Op y.Reg).1.A == 9) with
  | true =>
    simp only [if_true]
    exact main _ _ true (by simp at h9; simp [h9])
  | false =>
    simp only [Bool.false_eq_true, if_false]
    refine main _ _ _ ?_
    simp at h9
    rw [Bool.eq_iff_iff]; simp [h9]
end Go.Es.Emi
