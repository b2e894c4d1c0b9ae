/- The interpreter answers as plain Lean does: part 2. No condition. -/
import Derived.Test.YtncfbghdnnhfiaaDoorEmiF
import Derived.Test.YtncfbghdnnhfiaaDoorEmiP
import Derived.KernelRfl
import Derived.Test.YtncfbghdnnhfiaaDoorEmiS0
set_option linter.unusedVariables false
set_option linter.unusedSimpArgs false
set_option maxRecDepth 100000
set_option maxHeartbeats 4000000
namespace Go.Es.Emi
theorem inst_second_ok (i_ : Inst) (r_ : Row) (r : Bool) (h : inst_second i_ r_ = some r) : Runs L F39.body ⟨tmOf [.d (Inst.d i_), .d (Row.d r_)] 0, updW (fun _ => none) []⟩ (inst_second_Q i_ r_ r) := by
 unfold inst_second at h
 refine Sq <| Ro <| Rc 3 [⟨.ptr [2] 0 0, [([2], some (.cells [.b i_.Lock, .i i_.Rep, .i i_.Seg, .y i_.Op, .i i_.Mod, .i i_.Reg, .i i_.RM, .w i_.Disp, .w i_.Imm, .w i_.Sel] 0))]⟩, ⟨.ptr [3] 0 0, [([3], some (.cells [.i r_.Name, .i r_.A, .i r_.B, .b r_.Mod] 0))]⟩, vb false] <| Rk <| Sq <| Sq <| Ro <| Rc 3 [vp [3] 0 3, vb r_.Mod, vb (!r_.Mod)] <| Rk ?_
 cases hb_1 : ((!r_.Mod) : Bool) with
 | true =>
  replace h := ite_t hb_1 h
  refine Ct <| Sq <| Ro <| Rc 4 [vp [2] 0 4, vi i_.Mod, vb (i_.Mod == 0), vb (i_.Mod == 0)] ?_
  cases hb_2 : ((i_.Mod == 0) : Bool) with
  | true =>
   replace h := ite_t hb_2 h
   refine Rc 5 [vp [2] 0 5, vi i_.Reg, vb (i_.Reg == 0), vb (i_.Reg == 0), vb (i_.Reg == 0)] ?_
   cases hb_3 : ((i_.Reg == 0) : Bool) with
   | true =>
    replace h := ite_t hb_3 h
    refine Rc 5 [vp [2] 0 6, vi i_.RM, vb (i_.RM == 0), vb (i_.RM == 0), vb (i_.RM == 0)] ?_
    cases hb_4 : ((i_.RM == 0) : Bool) with
    | true =>
     replace h := ite_t hb_4 h
     refine Rc 5 [vp [2] 0 7, vw i_.Disp, vb (i_.Disp == 0), vb (i_.Disp == 0), vb (i_.Disp == 0)] <| Rk <| Runs.ret <| kS_ret ?_
     cases h
     exact Fq
    | false =>
     replace h := ite_f hb_4 h
     refine Rc 5 [vn, vn, vn, vb false, vb false] <| Rk <| Runs.ret <| kS_ret ?_
     cases h
     exact Fq
   | false =>
    replace h := ite_f hb_3 h
    refine Rc 10 [vn, vn, vn, vb false, vb false, vn, vn, vn, vb false, vb false] <| Rk <| Runs.ret <| kS_ret ?_
    cases h
    exact Fq
  | false =>
   replace h := ite_f hb_2 h
   refine Rc 15 [vn, vn, vn, vb false, vb false, vn, vn, vn, vb false, vb false, vn, vn, vn, vb false, vb false] <| Rk <| Runs.ret <| kS_ret ?_
   cases h
   exact Fq
 | false =>
  replace h := ite_f hb_1 h
  refine Cf <| Runs.skip <| kS_nrm <| Sq <| Sq <| Ro <| Rc 4 [vp [2] 0 4, vi i_.Mod, vb (decide (i_.Mod < 0)), vb (decide (i_.Mod < 0))] ?_
  cases hb_5 : ((decide (i_.Mod < 0)) : Bool) with
  | true =>
   replace h := ite_t hb_5 h
   refine Rc 24 [vn, vn, vn, vb true, vb true, vn, vn, vn, vb true, vb true, vn, vn, vn, vb true, vb true, vn, vn, vn, vb true, vb true, vn, vn, vn, vb true] <| Rk <| Ct <| Sq <| Ro <| Rc 1 [vb false] <| Rk <| Runs.ret <| kS_ret ?_
   cases h
   exact Fq
  | false =>
   replace h := ite_f hb_5 h
   refine Rc 5 [vp [2] 0 4, vi i_.Mod, vb (decide (i_.Mod > 3)), vb (decide (i_.Mod > 3)), vb (decide (i_.Mod > 3))] ?_
   cases hb_6 : ((decide (i_.Mod > 3)) : Bool) with
   | true =>
    replace h := ite_t hb_6 h
    refine Rc 19 [vn, vn, vn, vb true, vb true, vn, vn, vn, vb true, vb true, vn, vn, vn, vb true, vb true, vn, vn, vn, vb true] <| Rk <| Ct <| Sq <| Ro <| Rc 1 [vb false] <| Rk <| Runs.ret <| kS_ret ?_
    cases h
    exact Fq
   | false =>
    replace h := ite_f hb_6 h
    refine Rc 5 [vp [2] 0 5, vi i_.Reg, vb (decide (i_.Reg < 0)), vb (decide (i_.Reg < 0)), vb (decide (i_.Reg < 0))] ?_
    cases hb_7 : ((decide (i_.Reg < 0)) : Bool) with
    | true =>
     replace h := ite_t hb_7 h
     refine Rc 14 [vn, vn, vn, vb true, vb true, vn, vn, vn, vb true, vb true, vn, vn, vn, vb true] <| Rk <| Ct <| Sq <| Ro <| Rc 1 [vb false] <| Rk <| Runs.ret <| kS_ret ?_
     cases h
     exact Fq
    | false =>
     replace h := ite_f hb_7 h
     refine Rc 5 [vp [2] 0 5, vi i_.Reg, vb (decide (i_.Reg > 7)), vb (decide (i_.Reg > 7)), vb (decide (i_.Reg > 7))] ?_
     cases hb_8 : ((decide (i_.Reg > 7)) : Bool) with
     | true =>
      replace h := ite_t hb_8 h
      refine Rc 9 [vn, vn, vn, vb true, vb true, vn, vn, vn, vb true] <| Rk <| Ct <| Sq <| Ro <| Rc 1 [vb false] <| Rk <| Runs.ret <| kS_ret ?_
      cases h
      exact Fq
     | false =>
      replace h := ite_f hb_8 h
      refine Rc 5 [vp [2] 0 6, vi i_.RM, vb (decide (i_.RM < 0)), vb (decide (i_.RM < 0)), vb (decide (i_.RM < 0))] ?_
      cases hb_9 : ((decide (i_.RM < 0)) : Bool) with
      | true =>
       replace h := ite_t hb_9 h
       refine Rc 4 [vn, vn, vn, vb true] <| Rk <| Ct <| Sq <| Ro <| Rc 1 [vb false] <| Rk <| Runs.ret <| kS_ret ?_
       cases h
       exact Fq
      | false =>
       replace h := ite_f hb_9 h
       refine Rc 4 [vp [2] 0 6, vi i_.RM, vb (decide (i_.RM > 7)), vb (decide (i_.RM > 7))] <| Rk ?_
       cases hb_10 : ((decide (i_.RM > 7)) : Bool) with
       | true =>
        replace h := ite_t hb_10 h
        refine Ct <| Sq <| Ro <| Rc 1 [vb false] <| Rk <| Runs.ret <| kS_ret ?_
        cases h
        exact Fq
       | false =>
        replace h := ite_f hb_10 h
        refine Cf <| Runs.skip <| kS_nrm <| Sq <| Sq <| Ro <| Rc 4 [vp [2] 0 4, vi i_.Mod, vb (i_.Mod == 3), vb (i_.Mod == 3)] ?_
        cases hb_11 : ((i_.Mod == 3) : Bool) with
        | true =>
         replace h := ite_t hb_11 h
         refine Rc 4 [vp [3] 0 1, vi r_.A, vb (r_.A == 19), vb (r_.A == 19)] ?_
         cases hb_12 : ((r_.A == 19) : Bool) with
         | true =>
          replace h := ite_t hb_12 h
          refine Rc 10 [vn, vn, vn, vb true, vb true, vn, vn, vn, vb true, vb true] <| Rk <| Ct <| Sq <| Ro <| Rc 1 [vb false] <| Rk <| Runs.ret <| kS_ret ?_
          cases h
          exact Fq
         | false =>
          replace h := ite_f hb_12 h
          refine Rc 5 [vp [3] 0 2, vi r_.B, vb (r_.B == 19), vb (r_.B == 19), vb (r_.B == 19)] ?_
          cases hb_13 : ((r_.B == 19) : Bool) with
          | true =>
           replace h := ite_t hb_13 h
           refine Rc 5 [vn, vn, vn, vb true, vb true] <| Rk <| Ct <| Sq <| Ro <| Rc 1 [vb false] <| Rk <| Runs.ret <| kS_ret ?_
           cases h
           exact Fq
          | false =>
           replace h := ite_f hb_13 h
           refine Rc 5 [vp [3] 0 2, vi r_.B, vb (r_.B == 20), vb (r_.B == 20), vb (r_.B == 20)] <| Rk ?_
           cases hb_14 : ((r_.B == 20) : Bool) with
           | true =>
            replace h := ite_t hb_14 h
            refine Ct <| Sq <| Ro <| Rc 1 [vb false] <| Rk <| Runs.ret <| kS_ret ?_
            cases h
            exact Fq
           | false =>
            replace h := ite_f hb_14 h
            refine Cf <| Runs.skip <| kS_nrm <| Runs.canon (inst_second_h26 i_) Cz ?_
            exact inst_second_j26_ok i_ r_ i_ r h
        | false =>
         replace h := ite_f hb_11 h
         refine Rc 14 [vn, vn, vn, vn, vn, vn, vn, vn, vn, vn, vn, vn, vn, vb false] <| Rk <| Cf <| Runs.skip <| kS_nrm <| Runs.canon (inst_second_h26 i_) Cz ?_
         exact inst_second_j26_ok i_ r_ i_ r h
theorem inst_second_L (i_ : Inst) (r_ : Row) (r : Bool) (h : inst_second i_ r_ = some r) : L 39 [.d (Inst.d i_), .d (Row.d r_)] = some (.b r, [.d (Inst.d i_), .d (Row.d r_)]) := by
 obtain ⟨p, ⟨hne, hf⟩, hr⟩ := inst_second_ok i_ r_ r h
 obtain ⟨k, hk⟩ := run_of (F := F39) (args := [.d (Inst.d i_), .d (Row.d r_)]) (ap := [.d (Inst.d i_), .d (Row.d r_)]) (bx0 := updW (fun _ => none) []) rfl rfl (by kernel_rfl) ⟨p, ⟨hne, hf⟩, hr⟩
 exact lim_run (k := k) rfl hk
def inst_behind_h6 (i2 : Inst) (r3 : Row) (t11 : (A2 Int)) (t12 : Int) : St := ⟨tab [(2, .ptr [2] 0 0), (3, .ptr [3] 0 0), (11, .d (.agg [.int .i64 t11.a0, .int .i64 t11.a1])), (12, .i t12)], tabB [([2], some (.cells [.b i2.Lock, .i i2.Rep, .i i2.Seg, .y i2.Op, .i i2.Mod, .i i2.Reg, .i i2.RM, .w i2.Disp, .w i2.Imm, .w i2.Sel] 0)), ([3], some (.cells [.i r3.Name, .i r3.A, .i r3.B, .b r3.Mod] 0))]⟩
def inst_behind_h32 (i2 : Inst) (r3 : Row) (t11 : (A2 Int)) (t12 : Int) (t15 : Int) (t41 : Bool) : St := ⟨tab [(2, .ptr [2] 0 0), (3, .ptr [3] 0 0), (11, .d (.agg [.int .i64 t11.a0, .int .i64 t11.a1])), (12, .i t12), (15, .i t15), (41, .b t41)], tabB [([2], some (.cells [.b i2.Lock, .i i2.Rep, .i i2.Seg, .y i2.Op, .i i2.Mod, .i i2.Reg, .i i2.RM, .w i2.Disp, .w i2.Imm, .w i2.Sel] 0)), ([3], some (.cells [.i r3.Name, .i r3.A, .i r3.B, .b r3.Mod] 0))]⟩
def inst_behind_h62 (i2 : Inst) : St := ⟨tab [(2, .ptr [2] 0 0)], tabB [([2], some (.cells [.b i2.Lock, .i i2.Rep, .i i2.Seg, .y i2.Op, .i i2.Mod, .i i2.Reg, .i i2.RM, .w i2.Disp, .w i2.Imm, .w i2.Sel] 0))]⟩
def inst_behind_Q (i_ : Inst) (r_ : Row) (r : Bool) (p : Out × St) : Prop := (∀ i, p.1 ≠ .exit i) ∧ finF F40 [.d (Inst.d i_), .d (Row.d r_)] p.2 = some (.b r, [.d (Inst.d i_), .d (Row.d r_)])
def inst_behind_P6 (i_ : Inst) (r_ : Row) (i2 : Inst) (r3 : Row) (t11 : (A2 Int)) (e : (Bool ⊕ Unit)) (p : Out × St) : Prop := match e with
 | .inl x => p.1 = .ret ∧ finF F40 [.d (Inst.d i_), .d (Row.d r_)] p.2 = some (.b x, [.d (Inst.d i_), .d (Row.d r_)])
 | .inr x => p.1 = .exit 0 ∧ ∃ g : Unit, Canon [] [2] [[2]] p.2 (inst_behind_h62 i2)
theorem inst_behind_j32_ok (i_ : Inst) (r_ : Row) (i2 : Inst) (r3 : Row) (t11 : (A2 Int)) (t12 : Int) (t15 : Int) (t41 : Bool) (r : (Lp Int (Bool ⊕ Unit))) (h : inst_behind_j32 i2 r3 t11 t12 t15 t41 = some r) : Runs L F40b32 (inst_behind_h32 i2 r3 t11 t12 t15 t41) (kB 2 (kB 1 (kS L F40c61 (LQ [] [2, 3, 11, 12] [[2], [3]] (fun (x : Int) (g : Unit) => inst_behind_h6 i2 r3 t11 x) (inst_behind_P6 i_ r_ i2 r3 t11) r)))) := by
 unfold inst_behind_j32 at h
 cases hb_8 : (t41 : Bool) with
 | true =>
  replace h := ite_t hb_8 h
  refine Ct <| Sq <| Ro <| Rc 2 [vp [2] 0 8, vw i2.Imm] ?_
  obtain ⟨r_1, hr_1, h⟩ := bind_s h
  have hc_1 := bits_Fits_L i2.Imm r_1 hr_1
  refine Rt (some 46) (.callf 52) [] none [.w i2.Imm] (.b r_1) [] (cc hc_1) <| Rc 1 [vb r_1] ?_
  cases hb_9 : (r_1 : Bool) with
  | true =>
   replace h := ite_t hb_9 h
   refine Rc 5 [vp [2] 0 9, vw i2.Sel, vb (i2.Sel == 0), vb (i2.Sel == 0), vb (i2.Sel == 0)] <| Rk <| Runs.ret <| kB_ret <| kB_ret <| kS_ret ?_
   obtain rfl := sj h
   exact ⟨nofun, rfl, (by kernel_rfl)⟩
  | false =>
   replace h := ite_f hb_9 h
   refine Rc 5 [vn, vn, vn, vb false, vb false] <| Rk <| Runs.ret <| kB_ret <| kB_ret <| kS_ret ?_
   obtain rfl := sj h
   exact ⟨nofun, rfl, (by kernel_rfl)⟩
 | false =>
  replace h := ite_f hb_8 h
  refine Cf <| Sq <| Sq <| Ro <| Rc 2 [vb (t15 == 7), vb (t15 == 7)] <| Rk ?_
  cases hb_10 : ((t15 == 7) : Bool) with
  | true =>
   replace h := ite_t hb_10 h
   refine Ct <| Runs.skip <| kS_nrm <| Ct <| Sq <| Ro <| Rc 4 [vp [2] 0 9, vw i2.Sel, vb (i2.Sel == 0), vb (i2.Sel == 0)] <| Rk <| Runs.ret <| kB_ret <| kB_ret <| kS_ret ?_
   obtain rfl := sj h
   exact ⟨nofun, rfl, (by kernel_rfl)⟩
  | false =>
   replace h := ite_f hb_10 h
   refine Cf <| Sq <| Ro <| Rc 2 [vb (t15 == 10), vb (t15 == 10)] <| Rk ?_
   cases hb_11 : ((t15 == 10) : Bool) with
   | true =>
    replace h := ite_t hb_11 h
    refine Ct <| Runs.skip <| kS_nrm <| Ct <| Sq <| Ro <| Rc 4 [vp [2] 0 9, vw i2.Sel, vb (i2.Sel == 0), vb (i2.Sel == 0)] <| Rk <| Runs.ret <| kB_ret <| kB_ret <| kS_ret ?_
    obtain rfl := sj h
    exact ⟨nofun, rfl, (by kernel_rfl)⟩
   | false =>
    replace h := ite_f hb_11 h
    refine Cf <| Sq <| Ro <| Rc 2 [vb (t15 == 12), vb (t15 == 12)] <| Rk ?_
    cases hb_12 : ((t15 == 12) : Bool) with
    | true =>
     replace h := ite_t hb_12 h
     refine Ct <| Runs.skip <| kS_nrm <| Ct <| Sq <| Ro <| Rc 4 [vp [2] 0 9, vw i2.Sel, vb (i2.Sel == 0), vb (i2.Sel == 0)] <| Rk <| Runs.ret <| kB_ret <| kB_ret <| kS_ret ?_
     obtain rfl := sj h
     exact ⟨nofun, rfl, (by kernel_rfl)⟩
    | false =>
     replace h := ite_f hb_12 h
     refine Cf <| Ro <| Rc 2 [vb (t15 == 13), vb (t15 == 13)] <| Rk ?_
     cases hb_13 : ((t15 == 13) : Bool) with
     | true =>
      replace h := ite_t hb_13 h
      refine Ct <| Sq <| Ro <| Rc 4 [vp [2] 0 9, vw i2.Sel, vb (i2.Sel == 0), vb (i2.Sel == 0)] <| Rk <| Runs.ret <| kB_ret <| kB_ret <| kS_ret ?_
      obtain rfl := sj h
      exact ⟨nofun, rfl, (by kernel_rfl)⟩
     | false =>
      replace h := ite_f hb_13 h
      refine Cf <| Sq <| Ro <| Rc 2 [vb (t15 == 11), vb (t15 == 11)] <| Rk ?_
      cases hb_14 : ((t15 == 11) : Bool) with
      | true =>
       replace h := ite_t hb_14 h
       refine Ct <| Sq <| Ro <| Rc 1 [vb true] <| Rk <| Runs.ret <| kB_ret <| kB_ret <| kS_ret ?_
       obtain rfl := sj h
       exact ⟨nofun, rfl, (by kernel_rfl)⟩
      | false =>
       replace h := ite_f hb_14 h
       refine Cf <| Runs.skip <| kB_nrm <| kB_nrm <| kS_nrm <| Ro <| Rc 2 [vi (IntKind.wrap .i64 (t12 + 1)), vi (IntKind.wrap .i64 (t12 + 1))] <| Rd ?_
       obtain rfl := sj h
       exact ⟨rfl, (), Cz⟩
theorem inst_behind_l6_ok (i_ : Inst) (r_ : Row) (i2 : Inst) (r3 : Row) (t11 : (A2 Int)) (t12 : Int) (r : (Lp Int (Bool ⊕ Unit))) (h : inst_behind_l6 i2 r3 t11 t12 = some r) : Runs L F40l6 (inst_behind_h6 i2 r3 t11 t12) (LQ [] [2, 3, 11, 12] [[2], [3]] (fun (x : Int) (g : Unit) => inst_behind_h6 i2 r3 t11 x) (inst_behind_P6 i_ r_ i2 r3 t11) r) := by
 unfold inst_behind_l6 at h
 refine Sq <| Ro <| Rc 1 [vb (decide (t12 < 2))] <| Rk <| Sq ?_
 cases hb_1 : ((decide (t12 < 2)) : Bool) with
 | true =>
  replace h := ite_t hb_1 h
  refine Ct <| Runs.skip <| kS_nrm <| Sq <| Runs.block <| Sq <| Ro ?_
  obtain ⟨z_1, hz_1, h⟩ := bind_s h
  refine Rt (some 14) (.indexA 2 1 none) [] none [.d (.agg [.int .i64 t11.a0, .int .i64 t11.a1]), .i t12] (.i z_1) [] (cut_ixA (e := (D.int .i64)) (l := t11.l) hz_1 rfl) <| Rc 1 [vi z_1] <| Rk <| Sq <| Ro <| Rc 1 [vi z_1] <| Rk <| Runs.block <| Sq <| Ro <| Rc 2 [vb (z_1 == 6), vb (z_1 == 6)] <| Rk ?_
  cases hb_2 : ((z_1 == 6) : Bool) with
  | true =>
   replace h := ite_t hb_2 h
   refine Ct <| Sq <| Ro <| Rc 4 [vp [2] 0 8, vw i2.Imm, vb (decide (i2.Imm < 256)), vb (decide (i2.Imm < 256))] ?_
   cases hb_3 : ((decide (i2.Imm < 256)) : Bool) with
   | true =>
    replace h := ite_t hb_3 h
    refine Rc 5 [vp [2] 0 9, vw i2.Sel, vb (i2.Sel == 0), vb (i2.Sel == 0), vb (i2.Sel == 0)] ?_
    cases hb_4 : ((i2.Sel == 0) : Bool) with
    | true =>
     replace h := ite_t hb_4 h
     refine Rc 4 [vp [3] 0 0, vi r3.Name, vb (r3.Name != 70), vb (r3.Name != 70)] ?_
     cases hb_5 : ((r3.Name != 70) : Bool) with
     | true =>
      replace h := ite_t hb_5 h
      refine Rc 5 [vp [3] 0 0, vi r3.Name, vb (r3.Name != 71), vb (r3.Name != 71), vb (r3.Name != 71)] ?_
      cases hb_6 : ((r3.Name != 71) : Bool) with
      | true =>
       replace h := ite_t hb_6 h
       refine Rc 6 [vn, vn, vn, vb true, vb true, vb true] <| Rk <| Runs.ret <| kB_ret <| kB_ret <| kS_ret ?_
       obtain rfl := sj h
       exact ⟨nofun, rfl, (by kernel_rfl)⟩
      | false =>
       replace h := ite_f hb_6 h
       refine Rc 6 [vp [2] 0 8, vw i2.Imm, vb (i2.Imm == 10), vb (i2.Imm == 10), vb (i2.Imm == 10), vb (i2.Imm == 10)] <| Rk <| Runs.ret <| kB_ret <| kB_ret <| kS_ret ?_
       obtain rfl := sj h
       exact ⟨nofun, rfl, (by kernel_rfl)⟩
     | false =>
      replace h := ite_f hb_5 h
      refine Rc 11 [vn, vn, vn, vb false, vb false, vp [2] 0 8, vw i2.Imm, vb (i2.Imm == 10), vb (i2.Imm == 10), vb (i2.Imm == 10), vb (i2.Imm == 10)] <| Rk <| Runs.ret <| kB_ret <| kB_ret <| kS_ret ?_
      obtain rfl := sj h
      exact ⟨nofun, rfl, (by kernel_rfl)⟩
    | false =>
     replace h := ite_f hb_4 h
     refine Rc 15 [vn, vn, vn, vn, vn, vn, vn, vn, vn, vn, vn, vn, vn, vb false, vb false] <| Rk <| Runs.ret <| kB_ret <| kB_ret <| kS_ret ?_
     obtain rfl := sj h
     exact ⟨nofun, rfl, (by kernel_rfl)⟩
   | false =>
    replace h := ite_f hb_3 h
    refine Rc 20 [vn, vn, vn, vb false, vb false, vn, vn, vn, vn, vn, vn, vn, vn, vn, vn, vn, vn, vn, vb false, vb false] <| Rk <| Runs.ret <| kB_ret <| kB_ret <| kS_ret ?_
    obtain rfl := sj h
    exact ⟨nofun, rfl, (by kernel_rfl)⟩
  | false =>
   replace h := ite_f hb_2 h
   refine Cf <| Sq <| Sq <| Ro <| Rc 2 [vb (z_1 == 8), vb (z_1 == 8)] <| Rk ?_
   cases hb_7 : ((z_1 == 8) : Bool) with
   | true =>
    replace h := ite_t hb_7 h
    refine Ct <| Runs.skip <| kS_nrm <| Runs.canon (inst_behind_h32 i2 r3 t11 t12 z_1 true) Cz ?_
    exact inst_behind_j32_ok i_ r_ i2 r3 t11 t12 z_1 true r h
   | false =>
    replace h := ite_f hb_7 h
    refine Cf <| Ro <| Rc 2 [vb (z_1 == 9), vb (z_1 == 9)] <| Rk <| Runs.canon (inst_behind_h32 i2 r3 t11 t12 z_1 (z_1 == 9)) Cz ?_
    exact inst_behind_j32_ok i_ r_ i2 r3 t11 t12 z_1 (z_1 == 9) r h
 | false =>
  replace h := ite_f hb_1 h
  refine Cf <| Runs.exit <| kS_exit ?_
  obtain rfl := sj h
  exact ⟨nofun, rfl, (), Cz⟩
theorem inst_behind_ok (i_ : Inst) (r_ : Row) (r : Bool) (h : inst_behind i_ r_ = some r) : Runs L F40.body ⟨tmOf [.d (Inst.d i_), .d (Row.d r_)] 0, updW (fun _ => none) []⟩ (inst_behind_Q i_ r_ r) := by
 unfold inst_behind at h
 refine Sq <| Ro <| Rc 3 [⟨.ptr [2] 0 0, [([2], some (.cells [.b i_.Lock, .i i_.Rep, .i i_.Seg, .y i_.Op, .i i_.Mod, .i i_.Reg, .i i_.RM, .w i_.Disp, .w i_.Imm, .w i_.Sel] 0))]⟩, ⟨.ptr [3] 0 0, [([3], some (.cells [.i r_.Name, .i r_.A, .i r_.B, .b r_.Mod] 0))]⟩, vb false] <| Rk <| Sq <| Sq <| Ro <| Rc 6 [vp [3] 0 1, vi r_.A, vp [3] 0 2, vi r_.B, ⟨.d (.agg [.int .i64 r_.A, .int .i64 r_.B]), []⟩, vi 0] <| Rk <| Runs.block ?_
 obtain ⟨e_1, he_1, h⟩ := bind_s h
 refine Runs.loop (fun x : Int => inst_behind_l6 i_ r_ ({ a0 := r_.A, a1 := r_.B } : (A2 Int)) x) (fun (x : Int) (g : Unit) => inst_behind_h6 i_ r_ ({ a0 := r_.A, a1 := r_.B } : (A2 Int)) x) (inst_behind_P6 i_ r_ i_ r_ ({ a0 := r_.A, a1 := r_.B } : (A2 Int))) (fun x g r hr => inst_behind_l6_ok i_ r_ i_ r_ ({ a0 := r_.A, a1 := r_.B } : (A2 Int)) x  r hr) () he_1 Cz ?_
 rintro ⟨o, s⟩ hp
 cases e_1 with
 | inl e_2 =>
  obtain ⟨ho, hf⟩ := hp
  have ho' : o = .ret := ho
  subst ho'
  refine kB_ret <| kS_ret ?_
  obtain rfl := sj h
  exact ⟨Out.ret_ne, hf⟩
 | inr e_3 =>
  obtain ⟨ho, g_1, hk_1⟩ := hp
  have ho' : o = .exit 0 := ho
  subst ho'
  refine kB_hit <| kS_nrm <| Runs.canon _ hk_1 <| Sq <| Ro <| Rc 4 [vp [2] 0 8, vw i_.Imm, vb (i_.Imm == 0), vb (i_.Imm == 0)] ?_
  cases hb_1 : ((i_.Imm == 0) : Bool) with
  | true =>
   replace h := ite_t hb_1 h
   refine Rc 5 [vp [2] 0 9, vw i_.Sel, vb (i_.Sel == 0), vb (i_.Sel == 0), vb (i_.Sel == 0)] <| Rk <| Runs.ret ?_
   cases h
   exact Fq
  | false =>
   replace h := ite_f hb_1 h
   refine Rc 5 [vn, vn, vn, vb false, vb false] <| Rk <| Runs.ret ?_
   cases h
   exact Fq
theorem inst_behind_L (i_ : Inst) (r_ : Row) (r : Bool) (h : inst_behind i_ r_ = some r) : L 40 [.d (Inst.d i_), .d (Row.d r_)] = some (.b r, [.d (Inst.d i_), .d (Row.d r_)]) := by
 obtain ⟨p, ⟨hne, hf⟩, hr⟩ := inst_behind_ok i_ r_ r h
 obtain ⟨k, hk⟩ := run_of (F := F40) (args := [.d (Inst.d i_), .d (Row.d r_)]) (ap := [.d (Inst.d i_), .d (Row.d r_)]) (bx0 := updW (fun _ => none) []) rfl rfl (by kernel_rfl) ⟨p, ⟨hne, hf⟩, hr⟩
 exact lim_run (k := k) rfl hk
def isa_Repeats_h28 (t3 : Int) (t4 : Bool) : St := ⟨tab [(3, .i t3), (4, .b t4)], tabB []⟩
def isa_Repeats_Q (name_ : Int) (r : Int) (p : Out × St) : Prop := (∀ i, p.1 ≠ .exit i) ∧ finF F53 [.i name_] p.2 = some (.i r, [.i name_])
theorem isa_Repeats_j28_ok (name_ : Int) (t3 : Int) (t4 : Bool) (r : Int) (h : isa_Repeats_j28 t3 t4 = some r) : Runs L F53b28 (isa_Repeats_h28 t3 t4) (kB 0 (kS L F53c51 (isa_Repeats_Q name_ r))) := by
 unfold isa_Repeats_j28 at h
 cases hb_2 : (t4 : Bool) with
 | true =>
  replace h := ite_t hb_2 h
  refine Ct <| Sq <| Ro <| Rc 1 [vi 1] <| Rk <| Runs.ret <| kB_ret <| kS_ret ?_
  cases h
  exact Fq
 | false =>
  replace h := ite_f hb_2 h
  refine Cf <| Sq <| Sq <| Ro <| Rc 2 [vb (t3 == 48), vb (t3 == 48)] <| Rk ?_
  cases hb_3 : ((t3 == 48) : Bool) with
  | true =>
   replace h := ite_t hb_3 h
   refine Ct <| Runs.skip <| kS_nrm <| Ct <| Sq <| Ro <| Rc 1 [vi 2] <| Rk <| Runs.ret <| kB_ret <| kS_ret ?_
   cases h
   exact Fq
  | false =>
   replace h := ite_f hb_3 h
   refine Cf <| Sq <| Ro <| Rc 2 [vb (t3 == 49), vb (t3 == 49)] <| Rk ?_
   cases hb_4 : ((t3 == 49) : Bool) with
   | true =>
    replace h := ite_t hb_4 h
    refine Ct <| Runs.skip <| kS_nrm <| Ct <| Sq <| Ro <| Rc 1 [vi 2] <| Rk <| Runs.ret <| kB_ret <| kS_ret ?_
    cases h
    exact Fq
   | false =>
    replace h := ite_f hb_4 h
    refine Cf <| Sq <| Ro <| Rc 2 [vb (t3 == 54), vb (t3 == 54)] <| Rk ?_
    cases hb_5 : ((t3 == 54) : Bool) with
    | true =>
     replace h := ite_t hb_5 h
     refine Ct <| Runs.skip <| kS_nrm <| Ct <| Sq <| Ro <| Rc 1 [vi 2] <| Rk <| Runs.ret <| kB_ret <| kS_ret ?_
     cases h
     exact Fq
    | false =>
     replace h := ite_f hb_5 h
     refine Cf <| Ro <| Rc 2 [vb (t3 == 55), vb (t3 == 55)] <| Rk ?_
     cases hb_6 : ((t3 == 55) : Bool) with
     | true =>
      replace h := ite_t hb_6 h
      refine Ct <| Sq <| Ro <| Rc 1 [vi 2] <| Rk <| Runs.ret <| kB_ret <| kS_ret ?_
      cases h
      exact Fq
     | false =>
      replace h := ite_f hb_6 h
      refine Cf <| Runs.skip <| kB_nrm <| kS_nrm <| Sq <| Ro <| Rc 1 [vi 0] <| Rk <| Runs.ret ?_
      cases h
      exact Fq
theorem isa_Repeats_ok (name_ : Int) (r : Int) (h : isa_Repeats name_ = some r) : Runs L F53.body ⟨tmOf [.i name_] 0, updW (fun _ => none) []⟩ (isa_Repeats_Q name_ r) := by
 unfold isa_Repeats at h
 refine Sq <| Ro <| Rc 1 [vi 0] <| Rk <| Sq <| Sq <| Ro <| Rc 1 [vi name_] <| Rk <| Runs.block <| Sq <| Sq <| Ro <| Rc 2 [vb (name_ == 46), vb (name_ == 46)] <| Rk ?_
 cases hb_1 : ((name_ == 46) : Bool) with
 | true =>
  replace h := ite_t hb_1 h
  refine Ct <| Runs.skip <| kS_nrm <| Runs.canon (isa_Repeats_h28 name_ true) Cz ?_
  exact isa_Repeats_j28_ok name_ name_ true r h
 | false =>
  replace h := ite_f hb_1 h
  refine Cf <| Sq <| Ro <| Rc 2 [vb (name_ == 47), vb (name_ == 47)] <| Rk ?_
  cases hb_7 : ((name_ == 47) : Bool) with
  | true =>
   replace h := ite_t hb_7 h
   refine Ct <| Runs.skip <| kS_nrm <| Runs.canon (isa_Repeats_h28 name_ true) Cz ?_
   exact isa_Repeats_j28_ok name_ name_ true r h
  | false =>
   replace h := ite_f hb_7 h
   refine Cf <| Sq <| Ro <| Rc 2 [vb (name_ == 50), vb (name_ == 50)] <| Rk ?_
   cases hb_8 : ((name_ == 50) : Bool) with
   | true =>
    replace h := ite_t hb_8 h
    refine Ct <| Runs.skip <| kS_nrm <| Runs.canon (isa_Repeats_h28 name_ true) Cz ?_
    exact isa_Repeats_j28_ok name_ name_ true r h
   | false =>
    replace h := ite_f hb_8 h
    refine Cf <| Sq <| Ro <| Rc 2 [vb (name_ == 51), vb (name_ == 51)] <| Rk ?_
    cases hb_9 : ((name_ == 51) : Bool) with
    | true =>
     replace h := ite_t hb_9 h
     refine Ct <| Runs.skip <| kS_nrm <| Runs.canon (isa_Repeats_h28 name_ true) Cz ?_
     exact isa_Repeats_j28_ok name_ name_ true r h
    | false =>
     replace h := ite_f hb_9 h
     refine Cf <| Sq <| Ro <| Rc 2 [vb (name_ == 52), vb (name_ == 52)] <| Rk ?_
     cases hb_10 : ((name_ == 52) : Bool) with
     | true =>
      replace h := ite_t hb_10 h
      refine Ct <| Runs.skip <| kS_nrm <| Runs.canon (isa_Repeats_h28 name_ true) Cz ?_
      exact isa_Repeats_j28_ok name_ name_ true r h
     | false =>
      replace h := ite_f hb_10 h
      refine Cf <| Ro <| Rc 2 [vb (name_ == 53), vb (name_ == 53)] <| Rk <| Runs.canon (isa_Repeats_h28 name_ (name_ == 53)) Cz ?_
      exact isa_Repeats_j28_ok name_ name_ (name_ == 53) r h
theorem isa_Repeats_L (name_ : Int) (r : Int) (h : isa_Repeats name_ = some r) : L 53 [.i name_] = some (.i r, [.i name_]) := by
 obtain ⟨p, ⟨hne, hf⟩, hr⟩ := isa_Repeats_ok name_ r h
 obtain ⟨k, hk⟩ := run_of (F := F53) (args := [.i name_]) (ap := [.i name_]) (bx0 := updW (fun _ => none) []) rfl rfl (by kernel_rfl) ⟨p, ⟨hne, hf⟩, hr⟩
 exact lim_run (k := k) rfl hk
def inst_prefixes_Q (i_ : Inst) (r_ : Row) (r : Bool) (p : Out × St) : Prop := (∀ i, p.1 ≠ .exit i) ∧ finF F41 [.d (Inst.d i_), .d (Row.d r_)] p.2 = some (.b r, [.d (Inst.d i_), .d (Row.d r_)])
theorem inst_prefixes_ok (i_ : Inst) (r_ : Row) (r : Bool) (h : inst_prefixes i_ r_ = some r) : Runs L F41.body ⟨tmOf [.d (Inst.d i_), .d (Row.d r_)] 0, updW (fun _ => none) []⟩ (inst_prefixes_Q i_ r_ r) := by
 unfold inst_prefixes at h
 refine Sq <| Ro <| Rc 3 [⟨.ptr [2] 0 0, [([2], some (.cells [.b i_.Lock, .i i_.Rep, .i i_.Seg, .y i_.Op, .i i_.Mod, .i i_.Reg, .i i_.RM, .w i_.Disp, .w i_.Imm, .w i_.Sel] 0))]⟩, ⟨.ptr [3] 0 0, [([3], some (.cells [.i r_.Name, .i r_.A, .i r_.B, .b r_.Mod] 0))]⟩, vb false] <| Rk <| Sq <| Ro <| Rc 2 [vp [3] 0 0, vi r_.Name] ?_
 obtain ⟨r_1, hr_1, h⟩ := bind_s h
 have hc_1 := isa_Repeats_L r_.Name r_1 hr_1
 refine Rt (some 8) (.callf 53) [] none [.i r_.Name] (.i r_1) [] (cc hc_1) <| Rc 1 [vi r_1] <| Rk <| Sq <| Sq <| Ro <| Rc 2 [vp [2] 0 1, vi i_.Rep] <| Rk <| Runs.block <| Sq <| Ro <| Rc 2 [vb (i_.Rep == 0), vb (i_.Rep == 0)] <| Rk ?_
 cases hb_1 : ((i_.Rep == 0) : Bool) with
 | true =>
  replace h := ite_t hb_1 h
  refine Ct <| Runs.skip <| kB_nrm <| kS_nrm <| Sq <| Ro <| Rc 4 [vp [2] 0 2, vi i_.Seg, vb (decide (i_.Seg ≥ 0)), vb (decide (i_.Seg ≥ 0))] ?_
  cases hb_2 : ((decide (i_.Seg ≥ 0)) : Bool) with
  | true =>
   replace h := ite_t hb_2 h
   refine Rc 5 [vp [2] 0 2, vi i_.Seg, vb (decide (i_.Seg ≤ 4)), vb (decide (i_.Seg ≤ 4)), vb (decide (i_.Seg ≤ 4))] <| Rk <| Runs.ret ?_
   cases h
   exact Fq
  | false =>
   replace h := ite_f hb_2 h
   refine Rc 5 [vn, vn, vn, vb false, vb false] <| Rk <| Runs.ret ?_
   cases h
   exact Fq
 | false =>
  replace h := ite_f hb_1 h
  refine Cf <| Sq <| Ro <| Rc 2 [vb (i_.Rep == 1), vb (i_.Rep == 1)] <| Rk ?_
  cases hb_3 : ((i_.Rep == 1) : Bool) with
  | true =>
   replace h := ite_t hb_3 h
   refine Ct <| Sq <| Ro <| Rc 2 [vi r_1, vb (decide (r_1 < 2))] <| Rk ?_
   cases hb_4 : ((decide (r_1 < 2)) : Bool) with
   | true =>
    replace h := ite_t hb_4 h
    refine Ct <| Sq <| Ro <| Rc 1 [vb false] <| Rk <| Runs.ret <| kB_ret <| kS_ret ?_
    cases h
    exact Fq
   | false =>
    replace h := ite_f hb_4 h
    refine Cf <| Runs.skip <| kB_nrm <| kS_nrm <| Sq <| Ro <| Rc 4 [vp [2] 0 2, vi i_.Seg, vb (decide (i_.Seg ≥ 0)), vb (decide (i_.Seg ≥ 0))] ?_
    cases hb_5 : ((decide (i_.Seg ≥ 0)) : Bool) with
    | true =>
     replace h := ite_t hb_5 h
     refine Rc 5 [vp [2] 0 2, vi i_.Seg, vb (decide (i_.Seg ≤ 4)), vb (decide (i_.Seg ≤ 4)), vb (decide (i_.Seg ≤ 4))] <| Rk <| Runs.ret ?_
     cases h
     exact Fq
    | false =>
     replace h := ite_f hb_5 h
     refine Rc 5 [vn, vn, vn, vb false, vb false] <| Rk <| Runs.ret ?_
     cases h
     exact Fq
  | false =>
   replace h := ite_f hb_3 h
   refine Cf <| Sq <| Ro <| Rc 2 [vb (i_.Rep == 2), vb (i_.Rep == 2)] <| Rk ?_
   cases hb_6 : ((i_.Rep == 2) : Bool) with
   | true =>
    replace h := ite_t hb_6 h
    refine Ct <| Sq <| Ro <| Rc 2 [vi r_1, vb (decide (r_1 < 1))] <| Rk ?_
    cases hb_7 : ((decide (r_1 < 1)) : Bool) with
    | true =>
     replace h := ite_t hb_7 h
     refine Ct <| Sq <| Ro <| Rc 1 [vb false] <| Rk <| Runs.ret <| kB_ret <| kS_ret ?_
     cases h
     exact Fq
    | false =>
     replace h := ite_f hb_7 h
     refine Cf <| Runs.skip <| kB_nrm <| kS_nrm <| Sq <| Ro <| Rc 4 [vp [2] 0 2, vi i_.Seg, vb (decide (i_.Seg ≥ 0)), vb (decide (i_.Seg ≥ 0))] ?_
     cases hb_8 : ((decide (i_.Seg ≥ 0)) : Bool) with
     | true =>
      replace h := ite_t hb_8 h
      refine Rc 5 [vp [2] 0 2, vi i_.Seg, vb (decide (i_.Seg ≤ 4)), vb (decide (i_.Seg ≤ 4)), vb (decide (i_.Seg ≤ 4))] <| Rk <| Runs.ret ?_
      cases h
      exact Fq
     | false =>
      replace h := ite_f hb_8 h
      refine Rc 5 [vn, vn, vn, vb false, vb false] <| Rk <| Runs.ret ?_
      cases h
      exact Fq
   | false =>
    replace h := ite_f hb_6 h
    refine Cf <| Sq <| Ro <| Rc 1 [vb false] <| Rk <| Runs.ret <| kB_ret <| kS_ret ?_
    cases h
    exact Fq
theorem inst_prefixes_L (i_ : Inst) (r_ : Row) (r : Bool) (h : inst_prefixes i_ r_ = some r) : L 41 [.d (Inst.d i_), .d (Row.d r_)] = some (.b r, [.d (Inst.d i_), .d (Row.d r_)]) := by
 obtain ⟨p, ⟨hne, hf⟩, hr⟩ := inst_prefixes_ok i_ r_ r h
 obtain ⟨k, hk⟩ := run_of (F := F41) (args := [.d (Inst.d i_), .d (Row.d r_)]) (ap := [.d (Inst.d i_), .d (Row.d r_)]) (bx0 := updW (fun _ => none) []) rfl rfl (by kernel_rfl) ⟨p, ⟨hne, hf⟩, hr⟩
 exact lim_run (k := k) rfl hk
def inst_May_Q (i_ : Inst) (r : Bool) (p : Out × St) : Prop := (∀ i, p.1 ≠ .exit i) ∧ finF F21 [.d (Inst.d i_)] p.2 = some (.b r, [.d (Inst.d i_)])
theorem inst_May_ok (i_ : Inst) (r : Bool) (h : inst_May i_ = some r) : Runs L F21.body ⟨tmOf [.d (Inst.d i_)] 0, updW (fun _ => none) []⟩ (inst_May_Q i_ r) := by
 unfold inst_May at h
 refine Sq <| Ro <| Rc 2 [⟨.ptr [1] 0 0, [([1], some (.cells [.b i_.Lock, .i i_.Rep, .i i_.Seg, .y i_.Op, .i i_.Mod, .i i_.Reg, .i i_.RM, .w i_.Disp, .w i_.Imm, .w i_.Sel] 0))]⟩, vb false] <| Rk <| Sq <| Ro <| Rc 1 [⟨.d (Inst.d i_), []⟩] ?_
 obtain ⟨r_1, hr_1, h⟩ := bind_s h
 have hc_1 := inst_Row_L i_ r_1 hr_1
 refine Rt (some 7) (.callf 22) [] none [.d (Inst.d i_)] (.tup [.d (Row.d r_1.1), .b r_1.2]) [] (cc hc_1) <| Rc 6 [⟨.tup [.d (Row.d r_1.1), .b r_1.2], []⟩, ⟨.d (Row.d r_1.1), []⟩, vb r_1.2, ⟨.ptr [3] 0 0, [([3], some (.cells [.i 0, .i 0, .i 0, .b false] 0))]⟩, ⟨.tup [], [([3], some (.cells [.i r_1.1.Name, .i r_1.1.A, .i r_1.1.B, .b r_1.1.Mod] 0))]⟩, vb r_1.2] <| Rk <| Sq <| Ro <| Rc 2 [vb r_1.2, vb r_1.2] ?_
 cases hb_1 : (r_1.2 : Bool) with
 | true =>
  replace h := ite_t hb_1 h
  refine Rc 2 [⟨.d (Inst.d i_), []⟩, ⟨.d (Row.d r_1.1), []⟩] ?_
  obtain ⟨r_2, hr_2, h⟩ := bind_s h
  have hc_2 := inst_second_L i_ r_1.1 r_2 hr_2
  refine Rt (some 14) (.callf 39) [] none [.d (Inst.d i_), .d (Row.d r_1.1)] (.b r_2) [] (cc hc_2) <| Rc 2 [vb r_2, vb r_2] ?_
  cases hb_2 : (r_2 : Bool) with
  | true =>
   replace h := ite_t hb_2 h
   refine Rc 2 [⟨.d (Inst.d i_), []⟩, ⟨.d (Row.d r_1.1), []⟩] ?_
   obtain ⟨r_3, hr_3, h⟩ := bind_s h
   have hc_3 := inst_behind_L i_ r_1.1 r_3 hr_3
   refine Rt (some 19) (.callf 40) [] none [.d (Inst.d i_), .d (Row.d r_1.1)] (.b r_3) [] (cc hc_3) <| Rc 2 [vb r_3, vb r_3] ?_
   cases hb_3 : (r_3 : Bool) with
   | true =>
    replace h := ite_t hb_3 h
    refine Rc 2 [⟨.d (Inst.d i_), []⟩, ⟨.d (Row.d r_1.1), []⟩] ?_
    obtain ⟨r_4, hr_4, h⟩ := bind_s h
    have hc_4 := inst_prefixes_L i_ r_1.1 r_4 hr_4
    refine Rt (some 24) (.callf 41) [] none [.d (Inst.d i_), .d (Row.d r_1.1)] (.b r_4) [] (cc hc_4) <| Rc 2 [vb r_4, vb r_4] <| Rk <| Runs.ret ?_
    cases h
    exact Fq
   | false =>
    replace h := ite_f hb_3 h
    refine Rc 5 [vn, vn, vn, vb false, vb false] <| Rk <| Runs.ret ?_
    cases h
    exact Fq
  | false =>
   replace h := ite_f hb_2 h
   refine Rc 10 [vn, vn, vn, vb false, vb false, vn, vn, vn, vb false, vb false] <| Rk <| Runs.ret ?_
   cases h
   exact Fq
 | false =>
  replace h := ite_f hb_1 h
  refine Rc 15 [vn, vn, vn, vb false, vb false, vn, vn, vn, vb false, vb false, vn, vn, vn, vb false, vb false] <| Rk <| Runs.ret ?_
  cases h
  exact Fq
theorem inst_May_L (i_ : Inst) (r : Bool) (h : inst_May i_ = some r) : L 21 [.d (Inst.d i_)] = some (.b r, [.d (Inst.d i_)]) := by
 obtain ⟨p, ⟨hne, hf⟩, hr⟩ := inst_May_ok i_ r h
 obtain ⟨k, hk⟩ := run_of (F := F21) (args := [.d (Inst.d i_)]) (ap := [.d (Inst.d i_)]) (bx0 := updW (fun _ => none) []) rfl rfl (by kernel_rfl) ⟨p, ⟨hne, hf⟩, hr⟩
 exact lim_run (k := k) rfl hk
def isa_Immediate_h16 (t3 : Int) (t4 : Bool) : St := ⟨tab [(3, .i t3), (4, .b t4)], tabB []⟩
def isa_Immediate_Q (op_ : Int) (r : Int) (p : Out × St) : Prop := (∀ i, p.1 ≠ .exit i) ∧ finF F44 [.i op_] p.2 = some (.i r, [.i op_])
theorem isa_Immediate_j16_ok (op_ : Int) (t3 : Int) (t4 : Bool) (r : Int) (h : isa_Immediate_j16 t3 t4 = some r) : Runs L F44b16 (isa_Immediate_h16 t3 t4) (kB 0 (kS L F44c45 (isa_Immediate_Q op_ r))) := by
 unfold isa_Immediate_j16 at h
 cases hb_2 : (t4 : Bool) with
 | true =>
  replace h := ite_t hb_2 h
  refine Ct <| Sq <| Ro <| Rc 1 [vi 1] <| Rk <| Runs.ret <| kB_ret <| kS_ret ?_
  cases h
  exact Fq
 | false =>
  replace h := ite_f hb_2 h
  refine Cf <| Sq <| Sq <| Ro <| Rc 2 [vb (t3 == 7), vb (t3 == 7)] <| Rk ?_
  cases hb_3 : ((t3 == 7) : Bool) with
  | true =>
   replace h := ite_t hb_3 h
   refine Ct <| Runs.skip <| kS_nrm <| Ct <| Sq <| Ro <| Rc 1 [vi 2] <| Rk <| Runs.ret <| kB_ret <| kS_ret ?_
   cases h
   exact Fq
  | false =>
   replace h := ite_f hb_3 h
   refine Cf <| Sq <| Ro <| Rc 2 [vb (t3 == 10), vb (t3 == 10)] <| Rk ?_
   cases hb_4 : ((t3 == 10) : Bool) with
   | true =>
    replace h := ite_t hb_4 h
    refine Ct <| Runs.skip <| kS_nrm <| Ct <| Sq <| Ro <| Rc 1 [vi 2] <| Rk <| Runs.ret <| kB_ret <| kS_ret ?_
    cases h
    exact Fq
   | false =>
    replace h := ite_f hb_4 h
    refine Cf <| Sq <| Ro <| Rc 2 [vb (t3 == 12), vb (t3 == 12)] <| Rk ?_
    cases hb_5 : ((t3 == 12) : Bool) with
    | true =>
     replace h := ite_t hb_5 h
     refine Ct <| Runs.skip <| kS_nrm <| Ct <| Sq <| Ro <| Rc 1 [vi 2] <| Rk <| Runs.ret <| kB_ret <| kS_ret ?_
     cases h
     exact Fq
    | false =>
     replace h := ite_f hb_5 h
     refine Cf <| Ro <| Rc 2 [vb (t3 == 13), vb (t3 == 13)] <| Rk ?_
     cases hb_6 : ((t3 == 13) : Bool) with
     | true =>
      replace h := ite_t hb_6 h
      refine Ct <| Sq <| Ro <| Rc 1 [vi 2] <| Rk <| Runs.ret <| kB_ret <| kS_ret ?_
      cases h
      exact Fq
     | false =>
      replace h := ite_f hb_6 h
      refine Cf <| Sq <| Ro <| Rc 2 [vb (t3 == 11), vb (t3 == 11)] <| Rk ?_
      cases hb_7 : ((t3 == 11) : Bool) with
      | true =>
       replace h := ite_t hb_7 h
       refine Ct <| Sq <| Ro <| Rc 1 [vi 4] <| Rk <| Runs.ret <| kB_ret <| kS_ret ?_
       cases h
       exact Fq
      | false =>
       replace h := ite_f hb_7 h
       refine Cf <| Runs.skip <| kB_nrm <| kS_nrm <| Sq <| Ro <| Rc 1 [vi 0] <| Rk <| Runs.ret ?_
       cases h
       exact Fq
theorem isa_Immediate_ok (op_ : Int) (r : Int) (h : isa_Immediate op_ = some r) : Runs L F44.body ⟨tmOf [.i op_] 0, updW (fun _ => none) []⟩ (isa_Immediate_Q op_ r) := by
 unfold isa_Immediate at h
 refine Sq <| Ro <| Rc 1 [vi 0] <| Rk <| Sq <| Sq <| Ro <| Rc 1 [vi op_] <| Rk <| Runs.block <| Sq <| Sq <| Ro <| Rc 2 [vb (op_ == 6), vb (op_ == 6)] <| Rk ?_
 cases hb_1 : ((op_ == 6) : Bool) with
 | true =>
  replace h := ite_t hb_1 h
  refine Ct <| Runs.skip <| kS_nrm <| Runs.canon (isa_Immediate_h16 op_ true) Cz ?_
  exact isa_Immediate_j16_ok op_ op_ true r h
 | false =>
  replace h := ite_f hb_1 h
  refine Cf <| Sq <| Ro <| Rc 2 [vb (op_ == 8), vb (op_ == 8)] <| Rk ?_
  cases hb_8 : ((op_ == 8) : Bool) with
  | true =>
   replace h := ite_t hb_8 h
   refine Ct <| Runs.skip <| kS_nrm <| Runs.canon (isa_Immediate_h16 op_ true) Cz ?_
   exact isa_Immediate_j16_ok op_ op_ true r h
  | false =>
   replace h := ite_f hb_8 h
   refine Cf <| Ro <| Rc 2 [vb (op_ == 9), vb (op_ == 9)] <| Rk <| Runs.canon (isa_Immediate_h16 op_ (op_ == 9)) Cz ?_
   exact isa_Immediate_j16_ok op_ op_ (op_ == 9) r h
theorem isa_Immediate_L (op_ : Int) (r : Int) (h : isa_Immediate op_ = some r) : L 44 [.i op_] = some (.i r, [.i op_]) := by
 obtain ⟨p, ⟨hne, hf⟩, hr⟩ := isa_Immediate_ok op_ r h
 obtain ⟨k, hk⟩ := run_of (F := F44) (args := [.i op_]) (ap := [.i op_]) (bx0 := updW (fun _ => none) []) rfl rfl (by kernel_rfl) ⟨p, ⟨hne, hf⟩, hr⟩
 exact lim_run (k := k) rfl hk
def inst_Imms_Q (r_ : Row) (r : Int) (p : Out × St) : Prop := (∀ i, p.1 ≠ .exit i) ∧ finF F27 [.d (Row.d r_)] p.2 = some (.i r, [.d (Row.d r_)])
theorem inst_Imms_ok (r_ : Row) (r : Int) (h : inst_Imms r_ = some r) : Runs L F27.body ⟨tmOf [.d (Row.d r_)] 0, updW (fun _ => none) []⟩ (inst_Imms_Q r_ r) := by
 unfold inst_Imms at h
 refine Sq <| Ro <| Rc 2 [⟨.ptr [1] 0 0, [([1], some (.cells [.i r_.Name, .i r_.A, .i r_.B, .b r_.Mod] 0))]⟩, vi 0] <| Rk <| Sq <| Ro <| Rc 2 [vp [1] 0 1, vi r_.A] ?_
 obtain ⟨r_1, hr_1, h⟩ := bind_s h
 have hc_1 := isa_Immediate_L r_.A r_1 hr_1
 refine Rt (some 5) (.callf 44) [] (some []) [.i r_.A] (.i r_1) [] (cc hc_1) <| Rc 2 [vp [1] 0 2, vi r_.B] ?_
 obtain ⟨r_2, hr_2, h⟩ := bind_s h
 have hc_2 := isa_Immediate_L r_.B r_2 hr_2
 refine Rt (some 8) (.callf 44) [] none [.i r_.B] (.i r_2) [] (cc hc_2) <| Rc 2 [vi (IntKind.wrap .i64 (r_1 + r_2)), vi (IntKind.wrap .i64 (r_1 + r_2))] <| Rk <| Runs.ret ?_
 cases h
 exact Fq
theorem inst_Imms_L (r_ : Row) (r : Int) (h : inst_Imms r_ = some r) : L 27 [.d (Row.d r_)] = some (.i r, [.d (Row.d r_)]) := by
 obtain ⟨p, ⟨hne, hf⟩, hr⟩ := inst_Imms_ok r_ r h
 obtain ⟨k, hk⟩ := run_of (F := F27) (args := [.d (Row.d r_)]) (ap := [.d (Row.d r_)]) (bx0 := updW (fun _ => none) []) rfl rfl (by kernel_rfl) ⟨p, ⟨hne, hf⟩, hr⟩
 exact lim_run (k := k) rfl hk
def inst_Len_h20 (i1 : Inst) (r3 : Row) (n5 : Int) : St := ⟨tab [(1, .ptr [1] 0 0), (3, .ptr [3] 0 0), (5, .i n5)], tabB [([1], some (.cells [.b i1.Lock, .i i1.Rep, .i i1.Seg, .y i1.Op, .i i1.Mod, .i i1.Reg, .i i1.RM, .w i1.Disp, .w i1.Imm, .w i1.Sel] 0)), ([3], some (.cells [.i r3.Name, .i r3.A, .i r3.B, .b r3.Mod] 0))]⟩
def inst_Len_h26 (i1 : Inst) (r3 : Row) (n5 : Int) : St := ⟨tab [(1, .ptr [1] 0 0), (3, .ptr [3] 0 0), (5, .i n5)], tabB [([1], some (.cells [.b i1.Lock, .i i1.Rep, .i i1.Seg, .y i1.Op, .i i1.Mod, .i i1.Reg, .i i1.RM, .w i1.Disp, .w i1.Imm, .w i1.Sel] 0)), ([3], some (.cells [.i r3.Name, .i r3.A, .i r3.B, .b r3.Mod] 0))]⟩
def inst_Len_Q (i_ : Inst) (r : Int) (p : Out × St) : Prop := (∀ i, p.1 ≠ .exit i) ∧ finF F32 [.d (Inst.d i_)] p.2 = some (.i r, [.d (Inst.d i_)])
theorem inst_Len_j26_ok (i_ : Inst) (i1 : Inst) (r3 : Row) (n5 : Int) (r : Int) (h : inst_Len_j26 i1 r3 n5 = some r) : Runs L F32b26 (inst_Len_h26 i1 r3 n5) (inst_Len_Q i_ r) := by
 unfold inst_Len_j26 at h
 refine Sq <| Sq <| Ro <| Rc 3 [vp [1] 0 2, vi i1.Seg, vb (decide (i1.Seg > 0))] <| Rk ?_
 cases hb_4 : ((decide (i1.Seg > 0)) : Bool) with
 | true =>
  replace h := ite_t hb_4 h
  refine Ct <| Ro <| Rc 3 [vi n5, vi (IntKind.wrap .i64 (n5 + 1)), vi (IntKind.wrap .i64 (n5 + 1))] <| Rk <| Sq <| Sq <| Ro <| Rc 2 [vp [3] 0 3, vb r3.Mod] <| Rk ?_
  cases hb_5 : (r3.Mod : Bool) with
  | true =>
   replace h := ite_t hb_5 h
   refine Ct <| Ro <| Rc 5 [vi (IntKind.wrap .i64 (n5 + 1)), vp [1] 0 4, vi i1.Mod, vp [1] 0 6, vi i1.RM] ?_
   obtain ⟨r_4, hr_4, h⟩ := bind_s h
   have hc_4 := inst_Disps_L i1.Mod i1.RM r_4 hr_4
   refine Rt (some 38) (.callf 24) [] none [.i i1.Mod, .i i1.RM] (.i r_4) [] (cc hc_4) <| Rc 3 [vi (IntKind.wrap .i64 (1 + r_4)), vi (IntKind.wrap .i64 ((IntKind.wrap .i64 (n5 + 1)) + (IntKind.wrap .i64 (1 + r_4)))), vi (IntKind.wrap .i64 ((IntKind.wrap .i64 (n5 + 1)) + (IntKind.wrap .i64 (1 + r_4))))] <| Rk <| Sq <| Ro <| Rc 2 [vi (IntKind.wrap .i64 ((IntKind.wrap .i64 (n5 + 1)) + (IntKind.wrap .i64 (1 + r_4)))), vi (IntKind.wrap .i64 ((IntKind.wrap .i64 (n5 + 1)) + (IntKind.wrap .i64 (1 + r_4))))] <| Rk <| Runs.ret ?_
   cases h
   exact Fq
  | false =>
   replace h := ite_f hb_5 h
   refine Cf <| Runs.skip <| kS_nrm <| Sq <| Ro <| Rc 2 [vi (IntKind.wrap .i64 (n5 + 1)), vi (IntKind.wrap .i64 (n5 + 1))] <| Rk <| Runs.ret ?_
   cases h
   exact Fq
 | false =>
  replace h := ite_f hb_4 h
  refine Cf <| Runs.skip <| kS_nrm <| Sq <| Sq <| Ro <| Rc 2 [vp [3] 0 3, vb r3.Mod] <| Rk ?_
  cases hb_6 : (r3.Mod : Bool) with
  | true =>
   replace h := ite_t hb_6 h
   refine Ct <| Ro <| Rc 5 [vi n5, vp [1] 0 4, vi i1.Mod, vp [1] 0 6, vi i1.RM] ?_
   obtain ⟨r_5, hr_5, h⟩ := bind_s h
   have hc_5 := inst_Disps_L i1.Mod i1.RM r_5 hr_5
   refine Rt (some 38) (.callf 24) [] none [.i i1.Mod, .i i1.RM] (.i r_5) [] (cc hc_5) <| Rc 3 [vi (IntKind.wrap .i64 (1 + r_5)), vi (IntKind.wrap .i64 (n5 + (IntKind.wrap .i64 (1 + r_5)))), vi (IntKind.wrap .i64 (n5 + (IntKind.wrap .i64 (1 + r_5))))] <| Rk <| Sq <| Ro <| Rc 2 [vi (IntKind.wrap .i64 (n5 + (IntKind.wrap .i64 (1 + r_5)))), vi (IntKind.wrap .i64 (n5 + (IntKind.wrap .i64 (1 + r_5))))] <| Rk <| Runs.ret ?_
   cases h
   exact Fq
  | false =>
   replace h := ite_f hb_6 h
   refine Cf <| Runs.skip <| kS_nrm <| Sq <| Ro <| Rc 2 [vi n5, vi n5] <| Rk <| Runs.ret ?_
   cases h
   exact Fq
theorem inst_Len_j20_ok (i_ : Inst) (i1 : Inst) (r3 : Row) (n5 : Int) (r : Int) (h : inst_Len_j20 i1 r3 n5 = some r) : Runs L F32b20 (inst_Len_h20 i1 r3 n5) (inst_Len_Q i_ r) := by
 unfold inst_Len_j20 at h
 refine Sq <| Sq <| Ro <| Rc 3 [vp [1] 0 1, vi i1.Rep, vb (decide (i1.Rep > 0))] <| Rk ?_
 cases hb_3 : ((decide (i1.Rep > 0)) : Bool) with
 | true =>
  replace h := ite_t hb_3 h
  refine Ct <| Ro <| Rc 3 [vi n5, vi (IntKind.wrap .i64 (n5 + 1)), vi (IntKind.wrap .i64 (n5 + 1))] <| Rk <| Runs.canon (inst_Len_h26 i1 r3 (IntKind.wrap .i64 (n5 + 1))) Cz ?_
  exact inst_Len_j26_ok i_ i1 r3 (IntKind.wrap .i64 (n5 + 1)) r h
 | false =>
  replace h := ite_f hb_3 h
  refine Cf <| Runs.skip <| kS_nrm <| Runs.canon (inst_Len_h26 i1 r3 n5) Cz ?_
  exact inst_Len_j26_ok i_ i1 r3 n5 r h
theorem inst_Len_ok (i_ : Inst) (r : Int) (h : inst_Len i_ = some r) : Runs L F32.body ⟨tmOf [.d (Inst.d i_)] 0, updW (fun _ => none) []⟩ (inst_Len_Q i_ r) := by
 unfold inst_Len at h
 refine Sq <| Ro <| Rc 2 [⟨.ptr [1] 0 0, [([1], some (.cells [.b i_.Lock, .i i_.Rep, .i i_.Seg, .y i_.Op, .i i_.Mod, .i i_.Reg, .i i_.RM, .w i_.Disp, .w i_.Imm, .w i_.Sel] 0))]⟩, vi 0] <| Rk <| Sq <| Sq <| Ro <| Rc 1 [⟨.d (Inst.d i_), []⟩] ?_
 obtain ⟨r_1, hr_1, h⟩ := bind_s h
 have hc_1 := inst_May_L i_ r_1 hr_1
 refine Rt (some 7) (.callf 21) [] none [.d (Inst.d i_)] (.b r_1) [] (cc hc_1) <| Rc 1 [vb (!r_1)] <| Rk ?_
 cases hb_1 : ((!r_1) : Bool) with
 | true =>
  replace h := ite_t hb_1 h
  refine Ct <| Sq <| Ro <| Rc 1 [vi 0] <| Rk <| Runs.ret <| kS_ret ?_
  cases h
  exact Fq
 | false =>
  replace h := ite_f hb_1 h
  refine Cf <| Runs.skip <| kS_nrm <| Sq <| Ro <| Rc 1 [⟨.d (Inst.d i_), []⟩] ?_
  obtain ⟨r_2, hr_2, h⟩ := bind_s h
  have hc_2 := inst_Row_L i_ r_2 hr_2
  refine Rt (some 11) (.callf 22) [] none [.d (Inst.d i_)] (.tup [.d (Row.d r_2.1), .b r_2.2]) [] (cc hc_2) <| Rc 6 [⟨.tup [.d (Row.d r_2.1), .b r_2.2], []⟩, ⟨.d (Row.d r_2.1), []⟩, vb r_2.2, ⟨.ptr [3] 0 0, [([3], some (.cells [.i 0, .i 0, .i 0, .b false] 0))]⟩, ⟨.tup [], [([3], some (.cells [.i r_2.1.Name, .i r_2.1.A, .i r_2.1.B, .b r_2.1.Mod] 0))]⟩, vb r_2.2] <| Rk <| Sq <| Ro <| Rc 1 [⟨.d (Row.d r_2.1), []⟩] ?_
  obtain ⟨r_3, hr_3, h⟩ := bind_s h
  have hc_3 := inst_Imms_L r_2.1 r_3 hr_3
  refine Rt (some 15) (.callf 27) [] none [.d (Row.d r_2.1)] (.i r_3) [] (cc hc_3) <| Rc 2 [vi (IntKind.wrap .i64 (1 + r_3)), vi (IntKind.wrap .i64 (1 + r_3))] <| Rk <| Sq <| Sq <| Ro <| Rc 2 [vp [1] 0 0, vb i_.Lock] <| Rk ?_
  cases hb_2 : (i_.Lock : Bool) with
  | true =>
   replace h := ite_t hb_2 h
   refine Ct <| Ro <| Rc 3 [vi (IntKind.wrap .i64 (1 + r_3)), vi (IntKind.wrap .i64 ((IntKind.wrap .i64 (1 + r_3)) + 1)), vi (IntKind.wrap .i64 ((IntKind.wrap .i64 (1 + r_3)) + 1))] <| Rk <| Runs.canon (inst_Len_h20 ({ i_ with Lock := true } : Inst) r_2.1 (IntKind.wrap .i64 ((IntKind.wrap .i64 (1 + r_3)) + 1))) Cz ?_
   exact inst_Len_j20_ok i_ ({ i_ with Lock := true } : Inst) r_2.1 (IntKind.wrap .i64 ((IntKind.wrap .i64 (1 + r_3)) + 1)) r h
  | false =>
   replace h := ite_f hb_2 h
   refine Cf <| Runs.skip <| kS_nrm <| Runs.canon (inst_Len_h20 ({ i_ with Lock := false } : Inst) r_2.1 (IntKind.wrap .i64 (1 + r_3))) Cz ?_
   exact inst_Len_j20_ok i_ ({ i_ with Lock := false } : Inst) r_2.1 (IntKind.wrap .i64 (1 + r_3)) r h
theorem inst_Len_L (i_ : Inst) (r : Int) (h : inst_Len i_ = some r) : L 32 [.d (Inst.d i_)] = some (.i r, [.d (Inst.d i_)]) := by
 obtain ⟨p, ⟨hne, hf⟩, hr⟩ := inst_Len_ok i_ r h
 obtain ⟨k, hk⟩ := run_of (F := F32) (args := [.d (Inst.d i_)]) (ap := [.d (Inst.d i_)]) (bx0 := updW (fun _ => none) []) rfl rfl (by kernel_rfl) ⟨p, ⟨hne, hf⟩, hr⟩
 exact lim_run (k := k) rfl hk
def inst_Tail_Q (i_ : Inst) (r : Int) (p : Out × St) : Prop := (∀ i, p.1 ≠ .exit i) ∧ finF F33 [.d (Inst.d i_)] p.2 = some (.i r, [.d (Inst.d i_)])
theorem inst_Tail_ok (i_ : Inst) (r : Int) (h : inst_Tail i_ = some r) : Runs L F33.body ⟨tmOf [.d (Inst.d i_)] 0, updW (fun _ => none) []⟩ (inst_Tail_Q i_ r) := by
 unfold inst_Tail at h
 refine Sq <| Ro <| Rc 2 [⟨.ptr [1] 0 0, [([1], some (.cells [.b i_.Lock, .i i_.Rep, .i i_.Seg, .y i_.Op, .i i_.Mod, .i i_.Reg, .i i_.RM, .w i_.Disp, .w i_.Imm, .w i_.Sel] 0))]⟩, vi 0] <| Rk <| Sq <| Ro <| Rc 1 [⟨.d (Inst.d i_), []⟩] ?_
 obtain ⟨r_1, hr_1, h⟩ := bind_s h
 have hc_1 := inst_Row_L i_ r_1 hr_1
 refine Rt (some 7) (.callf 22) [] none [.d (Inst.d i_)] (.tup [.d (Row.d r_1.1), .b r_1.2]) [] (cc hc_1) <| Rc 6 [⟨.tup [.d (Row.d r_1.1), .b r_1.2], []⟩, ⟨.d (Row.d r_1.1), []⟩, vb r_1.2, ⟨.ptr [3] 0 0, [([3], some (.cells [.i 0, .i 0, .i 0, .b false] 0))]⟩, ⟨.tup [], [([3], some (.cells [.i r_1.1.Name, .i r_1.1.A, .i r_1.1.B, .b r_1.1.Mod] 0))]⟩, vb r_1.2] <| Rk <| Sq <| Sq <| Ro <| Rc 3 [vb r_1.2, vb (!r_1.2), vb (!r_1.2)] ?_
 cases hb_1 : ((!r_1.2) : Bool) with
 | true =>
  replace h := ite_t hb_1 h
  refine Rc 4 [vn, vn, vn, vb true] <| Rk <| Ct <| Sq <| Ro <| Rc 1 [vi 0] <| Rk <| Runs.ret <| kS_ret ?_
  cases h
  exact Fq
 | false =>
  replace h := ite_f hb_1 h
  refine Rc 1 [⟨.d (Inst.d i_), []⟩] ?_
  obtain ⟨r_2, hr_2, h⟩ := bind_s h
  have hc_2 := inst_May_L i_ r_2 hr_2
  refine Rt (some 14) (.callf 21) [] none [.d (Inst.d i_)] (.b r_2) [] (cc hc_2) <| Rc 2 [vb (!r_2), vb (!r_2)] <| Rk ?_
  cases hb_2 : ((!r_2) : Bool) with
  | true =>
   replace h := ite_t hb_2 h
   refine Ct <| Sq <| Ro <| Rc 1 [vi 0] <| Rk <| Runs.ret <| kS_ret ?_
   cases h
   exact Fq
  | false =>
   replace h := ite_f hb_2 h
   refine Cf <| Runs.skip <| kS_nrm <| Sq <| Ro <| Rc 1 [⟨.d (Inst.d i_), []⟩] ?_
   obtain ⟨r_3, hr_3, h⟩ := bind_s h
   have hc_3 := inst_Len_L i_ r_3 hr_3
   refine Rt (some 18) (.callf 32) [] (some []) [.d (Inst.d i_)] (.i r_3) [] (cc hc_3) <| Rc 1 [⟨.d (Row.d r_1.1), []⟩] ?_
   obtain ⟨r_4, hr_4, h⟩ := bind_s h
   have hc_4 := inst_Imms_L r_1.1 r_4 hr_4
   refine Rt (some 20) (.callf 27) [] none [.d (Row.d r_1.1)] (.i r_4) [] (cc hc_4) <| Rc 2 [vi (IntKind.wrap .i64 (r_3 - r_4)), vi (IntKind.wrap .i64 (r_3 - r_4))] <| Rk <| Runs.ret ?_
   cases h
   exact Fq
theorem inst_Tail_L (i_ : Inst) (r : Int) (h : inst_Tail i_ = some r) : L 33 [.d (Inst.d i_)] = some (.i r, [.d (Inst.d i_)]) := by
 obtain ⟨p, ⟨hne, hf⟩, hr⟩ := inst_Tail_ok i_ r h
 obtain ⟨k, hk⟩ := run_of (F := F33) (args := [.d (Inst.d i_)]) (ap := [.d (Inst.d i_)]) (bx0 := updW (fun _ => none) []) rfl rfl (by kernel_rfl) ⟨p, ⟨hne, hf⟩, hr⟩
 exact lim_run (k := k) rfl hk
def value_Plain_Q (v_ : api_Value) (r : Bool) (p : Out × St) : Prop := (∀ i, p.1 ≠ .exit i) ∧ finF F34 [.d (api_Value.d v_)] p.2 = some (.b r, [.d (api_Value.d v_)])
theorem value_Plain_ok (v_ : api_Value) (r : Bool) (h : value_Plain v_ = some r) : Runs L F34.body ⟨tmOf [.d (api_Value.d v_)] 0, updW (fun _ => none) []⟩ (value_Plain_Q v_ r) := by
 unfold value_Plain at h
 refine Sq <| Ro <| Rc 2 [⟨.ptr [1] 0 0, [([1], some (.cells [.i v_.N, .i v_.From, .i v_.Which, .i v_.Type_, .i v_.Wants, .b v_.Known] 0))]⟩, vb false] <| Rk <| Sq <| Ro <| Rc 4 [vp [1] 0 1, vi v_.From, vb (v_.From == 0), vb (v_.From == 0)] ?_
 cases hb_1 : ((v_.From == 0) : Bool) with
 | true =>
  replace h := ite_t hb_1 h
  refine Rc 5 [vp [1] 0 4, vi v_.Wants, vb (v_.Wants == 0), vb (v_.Wants == 0), vb (v_.Wants == 0)] <| Rk <| Runs.ret ?_
  cases h
  exact Fq
 | false =>
  replace h := ite_f hb_1 h
  refine Rc 5 [vn, vn, vn, vb false, vb false] <| Rk <| Runs.ret ?_
  cases h
  exact Fq
theorem value_Plain_L (v_ : api_Value) (r : Bool) (h : value_Plain v_ = some r) : L 34 [.d (api_Value.d v_)] = some (.b r, [.d (api_Value.d v_)]) := by
 obtain ⟨p, ⟨hne, hf⟩, hr⟩ := value_Plain_ok v_ r h
 obtain ⟨k, hk⟩ := run_of (F := F34) (args := [.d (api_Value.d v_)]) (ap := [.d (api_Value.d v_)]) (bx0 := updW (fun _ => none) []) rfl rfl (by kernel_rfl) ⟨p, ⟨hne, hf⟩, hr⟩
 exact lim_run (k := k) rfl hk
def emit_By_Q (from_ : Int) (r : Int) (p : Out × St) : Prop := (∀ i, p.1 ≠ .exit i) ∧ finF F50 [.i from_] p.2 = some (.i r, [.i from_])
theorem emit_By_ok (from_ : Int) (r : Int) (h : emit_By from_ = some r) : Runs L F50.body ⟨tmOf [.i from_] 0, updW (fun _ => none) []⟩ (emit_By_Q from_ r) := by
 unfold emit_By at h
 refine Sq <| Ro <| Rc 1 [vi 0] <| Rk <| Sq <| Sq <| Ro <| Rc 1 [vi from_] <| Rk <| Runs.block <| Sq <| Ro <| Rc 2 [vb (from_ == 2), vb (from_ == 2)] <| Rk ?_
 cases hb_1 : ((from_ == 2) : Bool) with
 | true =>
  replace h := ite_t hb_1 h
  refine Ct <| Sq <| Ro <| Rc 1 [vi 1] <| Rk <| Runs.ret <| kB_ret <| kS_ret ?_
  cases h
  exact Fq
 | false =>
  replace h := ite_f hb_1 h
  refine Cf <| Sq <| Ro <| Rc 2 [vb (from_ == 3), vb (from_ == 3)] <| Rk ?_
  cases hb_2 : ((from_ == 3) : Bool) with
  | true =>
   replace h := ite_t hb_2 h
   refine Ct <| Sq <| Ro <| Rc 1 [vi 2] <| Rk <| Runs.ret <| kB_ret <| kS_ret ?_
   cases h
   exact Fq
  | false =>
   replace h := ite_f hb_2 h
   refine Cf <| Runs.skip <| kB_nrm <| kS_nrm <| Sq <| Ro <| Rc 1 [vi 0] <| Rk <| Runs.ret ?_
   cases h
   exact Fq
theorem emit_By_L (from_ : Int) (r : Int) (h : emit_By from_ = some r) : L 50 [.i from_] = some (.i r, [.i from_]) := by
 obtain ⟨p, ⟨hne, hf⟩, hr⟩ := emit_By_ok from_ r h
 obtain ⟨k, hk⟩ := run_of (F := F50) (args := [.i from_]) (ap := [.i from_]) (bx0 := updW (fun _ => none) []) rfl rfl (by kernel_rfl) ⟨p, ⟨hne, hf⟩, hr⟩
 exact lim_run (k := k) rfl hk
def emit_Fix_Q (at_ : Int) (loc_ : Int) (v_ : api_Value) (from_ : Int) (which_ : Int) (r : Fixup) (p : Out × St) : Prop := (∀ i, p.1 ≠ .exit i) ∧ finF F35 [.i at_, .i loc_, .d (api_Value.d v_), .i from_, .i which_] p.2 = some (.d (Fixup.d r), [.i at_, .i loc_, .d (api_Value.d v_), .i from_, .i which_])
theorem emit_Fix_ok (at_ : Int) (loc_ : Int) (v_ : api_Value) (from_ : Int) (which_ : Int) (r : Fixup) (h : emit_Fix at_ loc_ v_ from_ which_ = some r) : Runs L F35.body ⟨tmOf [.i at_, .i loc_, .d (api_Value.d v_), .i from_, .i which_] 0, updW (fun _ => none) []⟩ (emit_Fix_Q at_ loc_ v_ from_ which_ r) := by
 unfold emit_Fix at h
 refine Sq <| Ro <| Rc 2 [⟨.ptr [7] 0 0, [([7], some (.cells [.i v_.N, .i v_.From, .i v_.Which, .i v_.Type_, .i v_.Wants, .b v_.Known] 0))]⟩, ⟨.ptr [10] 0 0, [([10], some (.cells [.i 0, .i 0, .b false, .i 0, .i 0, .i 0, .i 0, .w 0] 0))]⟩] <| Rk <| Sq <| Ro <| Rc 4 [vi at_, vi loc_, vp [7] 0 1, vi v_.From] ?_
 obtain ⟨r_1, hr_1, h⟩ := bind_s h
 have hc_1 := emit_By_L v_.From r_1 hr_1
 refine Rt (some 16) (.callf 50) [[11]] (some []) [.i v_.From] (.i r_1) [] (cc hc_1) <| Rc 6 [vp [7] 0 2, vi v_.Which, vp [7] 0 0, vi v_.N, vw (IntKind.wrap .u16 v_.N), vi from_] ?_
 obtain ⟨r_2, hr_2, h⟩ := bind_s h
 have hc_2 := emit_By_L from_ r_2 hr_2
 refine Rt (some 23) (.callf 50) [[11]] (some []) [.i from_] (.i r_2) [] (cc hc_2) <| Rc 4 [vi which_, ⟨.d (.agg [.int .i64 at_, .int .i64 loc_, .bool false, .int .i64 r_2, .int .i64 which_, .int .i64 r_1, .int .i64 v_.Which, .int .u16 (IntKind.wrap .u16 v_.N)]), []⟩, ⟨.ptr [11] 0 0, [([11], some (.cells [.i 0, .i 0, .b false, .i 0, .i 0, .i 0, .i 0, .w 0] 0))]⟩, ⟨.tup [], [([11], some (.cells [.i at_, .i loc_, .b false, .i r_2, .i which_, .i r_1, .i v_.Which, .w (IntKind.wrap .u16 v_.N)] 0))]⟩] <| Rk <| Sq <| Sq <| Ro <| Rc 2 [vi from_, vb (from_ == 0)] <| Rk ?_
 cases hb_1 : ((from_ == 0) : Bool) with
 | true =>
  replace h := ite_t hb_1 h
  refine Ct <| Ro <| Rc 4 [vp [11] 0 3, ⟨.tup [], [([11], some (.cells [.i at_, .i loc_, .b false, .i 5, .i which_, .i r_1, .i v_.Which, .w (IntKind.wrap .u16 v_.N)] 0))]⟩, vp [11] 0 4, ⟨.tup [], [([11], some (.cells [.i at_, .i loc_, .b false, .i 5, .i 0, .i r_1, .i v_.Which, .w (IntKind.wrap .u16 v_.N)] 0))]⟩] <| Rk <| Sq <| Ro <| Rc 2 [⟨.d (.agg [.int .i64 at_, .int .i64 loc_, .bool false, .int .i64 5, .int .i64 0, .int .i64 r_1, .int .i64 v_.Which, .int .u16 (IntKind.wrap .u16 v_.N)]), []⟩, ⟨.tup [], [([10], some (.cells [.i at_, .i loc_, .b false, .i 5, .i 0, .i r_1, .i v_.Which, .w (IntKind.wrap .u16 v_.N)] 0))]⟩] <| Rk <| Runs.ret ?_
  cases h
  exact Fq
 | false =>
  replace h := ite_f hb_1 h
  refine Cf <| Runs.skip <| kS_nrm <| Sq <| Ro <| Rc 2 [⟨.d (.agg [.int .i64 at_, .int .i64 loc_, .bool false, .int .i64 r_2, .int .i64 which_, .int .i64 r_1, .int .i64 v_.Which, .int .u16 (IntKind.wrap .u16 v_.N)]), []⟩, ⟨.tup [], [([10], some (.cells [.i at_, .i loc_, .b false, .i r_2, .i which_, .i r_1, .i v_.Which, .w (IntKind.wrap .u16 v_.N)] 0))]⟩] <| Rk <| Runs.ret ?_
  cases h
  exact Fq
theorem emit_Fix_L (at_ : Int) (loc_ : Int) (v_ : api_Value) (from_ : Int) (which_ : Int) (r : Fixup) (h : emit_Fix at_ loc_ v_ from_ which_ = some r) : L 35 [.i at_, .i loc_, .d (api_Value.d v_), .i from_, .i which_] = some (.d (Fixup.d r), [.i at_, .i loc_, .d (api_Value.d v_), .i from_, .i which_]) := by
 obtain ⟨p, ⟨hne, hf⟩, hr⟩ := emit_Fix_ok at_ loc_ v_ from_ which_ r h
 obtain ⟨k, hk⟩ := run_of (F := F35) (args := [.i at_, .i loc_, .d (api_Value.d v_), .i from_, .i which_]) (ap := [.i at_, .i loc_, .d (api_Value.d v_), .i from_, .i which_]) (bx0 := updW (fun _ => none) []) rfl rfl (by kernel_rfl) ⟨p, ⟨hne, hf⟩, hr⟩
 exact lim_run (k := k) rfl hk
def code_ahead_h4 (i1 : Inst) (out3 : (List Int)) (v_3 : Nat) : St := ⟨tab [(1, .ptr [1] 0 0), (3, .ref [3] v_3 0 (mY out3).length 1)], tabB [([1], some (.cells [.b i1.Lock, .i i1.Rep, .i i1.Seg, .y i1.Op, .i i1.Mod, .i i1.Reg, .i i1.RM, .w i1.Disp, .w i1.Imm, .w i1.Sel] 0)), ([3], some (.arr (mY out3) v_3 false))]⟩
def code_ahead_h10 (i1 : Inst) (out3 : (List Int)) (v_3 : Nat) : St := ⟨tab [(1, .ptr [1] 0 0), (3, .ref [3] v_3 0 (mY out3).length 1)], tabB [([1], some (.cells [.b i1.Lock, .i i1.Rep, .i i1.Seg, .y i1.Op, .i i1.Mod, .i i1.Reg, .i i1.RM, .w i1.Disp, .w i1.Imm, .w i1.Sel] 0)), ([3], some (.arr (mY out3) v_3 false))]⟩
def code_ahead_Q (i_ : Inst) (r : (List Int)) (p : Out × St) : Prop := (∀ i, p.1 ≠ .exit i) ∧ finF F23 [.d (Inst.d i_)] p.2 = some (.arr false 1 (mY r), [.d (Inst.d i_)])
theorem code_ahead_j10_ok (i_ : Inst) (i1 : Inst) (out3 : (List Int)) (v_3 : Nat) (r : (List Int)) (h : code_ahead_j10 i1 out3 = some r) : Runs L F23b10 (code_ahead_h10 i1 out3 v_3) (code_ahead_Q i_ r) := by
 unfold code_ahead_j10 at h
 refine Sq <| Sq <| Ro <| Rc 3 [vp [1] 0 1, vi i1.Rep, vb (decide (i1.Rep > 0))] <| Rk ?_
 cases hb_2 : ((decide (i1.Rep > 0)) : Bool) with
 | true =>
  replace h := ite_t hb_2 h
  refine Ct <| Ro <| Rc 6 [⟨.ref [3] v_3 0 (mY out3).length 1, []⟩, vp [1] 0 1, vi i1.Rep, vi (IntKind.wrap .i64 (241 + i1.Rep)), vy (IntKind.wrap .u8 (IntKind.wrap .i64 (241 + i1.Rep))), ⟨.ref [17] 0 0 (mY ([(IntKind.wrap .u8 (IntKind.wrap .i64 (241 + i1.Rep)))] : List Int)).length 1, [([17], some (.arr (mY ([(IntKind.wrap .u8 (IntKind.wrap .i64 (241 + i1.Rep)))] : List Int)) 0 false))]⟩] ?_
  obtain ⟨z_2, hz_2, h⟩ := bind_s h
  refine Rt (some 18) (.append 1 1 false) [] none [.ref [3] v_3 0 (mY out3).length 1, .ref [17] 0 0 (mY ([(IntKind.wrap .u8 (IntKind.wrap .i64 (241 + i1.Rep)))] : List Int)).length 1] (.ref [3] (v_3 + 1) 0 (mY z_2).length 1) [([17], some (.arr (mY ([(IntKind.wrap .u8 (IntKind.wrap .i64 (241 + i1.Rep)))] : List Int)) 0 true)), ([3], some (.arr (mY z_2) (v_3 + 1) false))] (cut_appR (e := (D.int .u8)) (l := out3) (fz := false) (ws := [([17], some (.arr (mY ([(IntKind.wrap .u8 (IntKind.wrap .i64 (241 + i1.Rep)))] : List Int)) 0 true))]) (ap_ref (e := (D.int .u8)) (l := ([(IntKind.wrap .u8 (IntKind.wrap .i64 (241 + i1.Rep)))] : List Int)) (fz := false) (by kernel_rfl) (by kernel_rfl) rfl) (fun _ => rfl) hz_2 (by kernel_rfl) (by kernel_rfl) rfl) <| Rc 1 [⟨.ref [3] (v_3 + 1) 0 (mY z_2).length 1, []⟩] <| Rk <| Sq <| Sq <| Ro <| Rc 3 [vp [1] 0 2, vi i1.Seg, vb (decide (i1.Seg > 0))] <| Rk ?_
  cases hb_3 : ((decide (i1.Seg > 0)) : Bool) with
  | true =>
   replace h := ite_t hb_3 h
   refine Ct <| Ro <| Rc 3 [⟨.ref [3] (v_3 + 1) 0 (mY z_2).length 1, []⟩, vp [1] 0 2, vi i1.Seg] ?_
   obtain ⟨z_3, hz_3, h⟩ := bind_s h
   refine Rt (some 25) (.iaddrA 5 1) [] none [.elt (.agg [.int .u8 0, .int .u8 38, .int .u8 46, .int .u8 54, .int .u8 62]) 0, .i i1.Seg] (.elt (.agg (mY ([0, 38, 46, 54, 62] : List Int))) (0 + (i1.Seg).toNat * 1)) [] (cut_iaE (l := ([0, 38, 46, 54, 62] : List Int)) hz_3 rfl) <| Rt (some 26) (.load none) [] none [.elt (.agg (mY ([0, 38, 46, 54, 62] : List Int))) (0 + (i1.Seg).toNat * 1)] (.y z_3) [] (cut_ldE (e := (D.int .u8)) (l := ([0, 38, 46, 54, 62] : List Int)) (y := z_3) hz_3) <| Rc 1 [⟨.ref [27] 0 0 (mY ([z_3] : List Int)).length 1, [([27], some (.arr (mY ([z_3] : List Int)) 0 false))]⟩] ?_
   obtain ⟨z_4, hz_4, h⟩ := bind_s h
   refine Rt (some 28) (.append 1 1 false) [] none [.ref [3] (v_3 + 1) 0 (mY z_2).length 1, .ref [27] 0 0 (mY ([z_3] : List Int)).length 1] (.ref [3] ((v_3 + 1) + 1) 0 (mY z_4).length 1) [([27], some (.arr (mY ([z_3] : List Int)) 0 true)), ([3], some (.arr (mY z_4) ((v_3 + 1) + 1) false))] (cut_appR (e := (D.int .u8)) (l := z_2) (fz := false) (ws := [([27], some (.arr (mY ([z_3] : List Int)) 0 true))]) (ap_ref (e := (D.int .u8)) (l := ([z_3] : List Int)) (fz := false) (by kernel_rfl) (by kernel_rfl) rfl) (fun _ => rfl) hz_4 (by kernel_rfl) (by kernel_rfl) rfl) <| Rc 1 [⟨.ref [3] ((v_3 + 1) + 1) 0 (mY z_4).length 1, []⟩] <| Rk <| Sq <| Ro <| Rc 2 [⟨.ref [3] ((v_3 + 1) + 1) 0 (mY z_4).length 1, []⟩, ⟨.ref [3] ((v_3 + 1) + 1) 0 (mY z_4).length 1, []⟩] <| Rk <| Runs.ret ?_
   obtain rfl := sj h
   exact ⟨Out.ret_ne, (fin_of (rs := [.ref [3] ((v_3 + 1) + 1) 0 (mY z_4).length 1]) (by kernel_rfl) (by kernel_rfl) (outs_own (id := [3]) (v := ((v_3 + 1) + 1)) (fz := false) (es := List.map (D.int .u8) z_4) (by kernel_rfl) (by decide) rfl outs_nil) (gives_cons (give_same (by kernel_rfl)) gives_nil))⟩
  | false =>
   replace h := ite_f hb_3 h
   refine Cf <| Runs.skip <| kS_nrm <| Sq <| Ro <| Rc 2 [⟨.ref [3] (v_3 + 1) 0 (mY z_2).length 1, []⟩, ⟨.ref [3] (v_3 + 1) 0 (mY z_2).length 1, []⟩] <| Rk <| Runs.ret ?_
   obtain rfl := sj h
   exact ⟨Out.ret_ne, (fin_of (rs := [.ref [3] (v_3 + 1) 0 (mY z_2).length 1]) (by kernel_rfl) (by kernel_rfl) (outs_own (id := [3]) (v := (v_3 + 1)) (fz := false) (es := List.map (D.int .u8) z_2) (by kernel_rfl) (by decide) rfl outs_nil) (gives_cons (give_same (by kernel_rfl)) gives_nil))⟩
 | false =>
  replace h := ite_f hb_2 h
  refine Cf <| Runs.skip <| kS_nrm <| Sq <| Sq <| Ro <| Rc 3 [vp [1] 0 2, vi i1.Seg, vb (decide (i1.Seg > 0))] <| Rk ?_
  cases hb_4 : ((decide (i1.Seg > 0)) : Bool) with
  | true =>
   replace h := ite_t hb_4 h
   refine Ct <| Ro <| Rc 3 [⟨.ref [3] v_3 0 (mY out3).length 1, []⟩, vp [1] 0 2, vi i1.Seg] ?_
   obtain ⟨z_5, hz_5, h⟩ := bind_s h
   refine Rt (some 25) (.iaddrA 5 1) [] none [.elt (.agg [.int .u8 0, .int .u8 38, .int .u8 46, .int .u8 54, .int .u8 62]) 0, .i i1.Seg] (.elt (.agg (mY ([0, 38, 46, 54, 62] : List Int))) (0 + (i1.Seg).toNat * 1)) [] (cut_iaE (l := ([0, 38, 46, 54, 62] : List Int)) hz_5 rfl) <| Rt (some 26) (.load none) [] none [.elt (.agg (mY ([0, 38, 46, 54, 62] : List Int))) (0 + (i1.Seg).toNat * 1)] (.y z_5) [] (cut_ldE (e := (D.int .u8)) (l := ([0, 38, 46, 54, 62] : List Int)) (y := z_5) hz_5) <| Rc 1 [⟨.ref [27] 0 0 (mY ([z_5] : List Int)).length 1, [([27], some (.arr (mY ([z_5] : List Int)) 0 false))]⟩] ?_
   obtain ⟨z_6, hz_6, h⟩ := bind_s h
   refine Rt (some 28) (.append 1 1 false) [] none [.ref [3] v_3 0 (mY out3).length 1, .ref [27] 0 0 (mY ([z_5] : List Int)).length 1] (.ref [3] (v_3 + 1) 0 (mY z_6).length 1) [([27], some (.arr (mY ([z_5] : List Int)) 0 true)), ([3], some (.arr (mY z_6) (v_3 + 1) false))] (cut_appR (e := (D.int .u8)) (l := out3) (fz := false) (ws := [([27], some (.arr (mY ([z_5] : List Int)) 0 true))]) (ap_ref (e := (D.int .u8)) (l := ([z_5] : List Int)) (fz := false) (by kernel_rfl) (by kernel_rfl) rfl) (fun _ => rfl) hz_6 (by kernel_rfl) (by kernel_rfl) rfl) <| Rc 1 [⟨.ref [3] (v_3 + 1) 0 (mY z_6).length 1, []⟩] <| Rk <| Sq <| Ro <| Rc 2 [⟨.ref [3] (v_3 + 1) 0 (mY z_6).length 1, []⟩, ⟨.ref [3] (v_3 + 1) 0 (mY z_6).length 1, []⟩] <| Rk <| Runs.ret ?_
   obtain rfl := sj h
   exact ⟨Out.ret_ne, (fin_of (rs := [.ref [3] (v_3 + 1) 0 (mY z_6).length 1]) (by kernel_rfl) (by kernel_rfl) (outs_own (id := [3]) (v := (v_3 + 1)) (fz := false) (es := List.map (D.int .u8) z_6) (by kernel_rfl) (by decide) rfl outs_nil) (gives_cons (give_same (by kernel_rfl)) gives_nil))⟩
  | false =>
   replace h := ite_f hb_4 h
   refine Cf <| Runs.skip <| kS_nrm <| Sq <| Ro <| Rc 2 [⟨.ref [3] v_3 0 (mY out3).length 1, []⟩, ⟨.ref [3] v_3 0 (mY out3).length 1, []⟩] <| Rk <| Runs.ret ?_
   obtain rfl := sj h
   exact ⟨Out.ret_ne, (fin_of (rs := [.ref [3] v_3 0 (mY out3).length 1]) (by kernel_rfl) (by kernel_rfl) (outs_own (id := [3]) (v := v_3) (fz := false) (es := List.map (D.int .u8) out3) (by kernel_rfl) (by decide) rfl outs_nil) (gives_cons (give_same (by kernel_rfl)) gives_nil))⟩
theorem code_ahead_ok (i_ : Inst) (r : (List Int)) (h : code_ahead i_ = some r) : Runs L F23.body ⟨tmOf [.d (Inst.d i_)] 0, updW (fun _ => none) []⟩ (code_ahead_Q i_ r) := by
 unfold code_ahead at h
 refine Sq <| Ro <| Rc 2 [⟨.ptr [1] 0 0, [([1], some (.cells [.b i_.Lock, .i i_.Rep, .i i_.Seg, .y i_.Op, .i i_.Mod, .i i_.Reg, .i i_.RM, .w i_.Disp, .w i_.Imm, .w i_.Sel] 0))]⟩, ⟨.nils, []⟩] <| Rk <| Sq <| Ro <| Rc 1 [⟨.nils, []⟩] <| Rk <| Runs.canon (code_ahead_h4 i_ ([] : List Int) 0) (Canon.cons (own_nil (D.int .u8) (v := 0) (by kernel_rfl) (by kernel_rfl)) Cz) <| Sq <| Sq <| Ro <| Rc 2 [vp [1] 0 0, vb i_.Lock] <| Rk ?_
 cases hb_1 : (i_.Lock : Bool) with
 | true =>
  replace h := ite_t hb_1 h
  refine Ct <| Ro <| Rc 2 [⟨.ref [3] 0 0 (mY ([] : List Int)).length 1, []⟩, ⟨.ref [7] 0 0 (mY ([240] : List Int)).length 1, [([7], some (.arr (mY ([240] : List Int)) 0 false))]⟩] ?_
  obtain ⟨z_1, hz_1, h⟩ := bind_s h
  refine Rt (some 8) (.append 1 1 false) [] none [.ref [3] 0 0 (mY ([] : List Int)).length 1, .ref [7] 0 0 (mY ([240] : List Int)).length 1] (.ref [3] 1 0 (mY z_1).length 1) [([7], some (.arr (mY ([240] : List Int)) 0 true)), ([3], some (.arr (mY z_1) 1 false))] (cut_appR (e := (D.int .u8)) (l := ([] : List Int)) (fz := false) (ws := [([7], some (.arr (mY ([240] : List Int)) 0 true))]) (ap_ref (e := (D.int .u8)) (l := ([240] : List Int)) (fz := false) (by kernel_rfl) (by kernel_rfl) rfl) (fun _ => rfl) hz_1 (by kernel_rfl) (by kernel_rfl) rfl) <| Rc 1 [⟨.ref [3] 1 0 (mY z_1).length 1, []⟩] <| Rk <| Runs.canon (code_ahead_h10 i_ z_1 1) Cz ?_
  exact code_ahead_j10_ok i_ i_ z_1 1 r h
 | false =>
  replace h := ite_f hb_1 h
  refine Cf <| Runs.skip <| kS_nrm <| Runs.canon (code_ahead_h10 i_ ([] : List Int) 0) Cz ?_
  exact code_ahead_j10_ok i_ i_ ([] : List Int) 0 r h
theorem code_ahead_L (i_ : Inst) (r : (List Int)) (h : code_ahead i_ = some r) : L 23 [.d (Inst.d i_)] = some (.arr false 1 (mY r), [.d (Inst.d i_)]) := by
 obtain ⟨p, ⟨hne, hf⟩, hr⟩ := code_ahead_ok i_ r h
 obtain ⟨k, hk⟩ := run_of (F := F23) (args := [.d (Inst.d i_)]) (ap := [.d (Inst.d i_)]) (bx0 := updW (fun _ => none) []) rfl rfl (by kernel_rfl) ⟨p, ⟨hne, hf⟩, hr⟩
 exact lim_run (k := k) rfl hk
def bits_High_Q (w_ : Int) (r : Int) (p : Out × St) : Prop := (∀ i, p.1 ≠ .exit i) ∧ finF F26 [.w w_] p.2 = some (.y r, [.w w_])
theorem bits_High_ok (w_ : Int) (r : Int) (h : bits_High w_ = some r) : Runs L F26.body ⟨tmOf [.w w_] 0, updW (fun _ => none) []⟩ (bits_High_Q w_ r) := by
 unfold bits_High at h
 refine Sq <| Ro <| Rc 1 [vy 0] <| Rk <| Sq <| Ro <| Rc 4 [vw w_, vw (shrI .u16 w_ 8), vy (IntKind.wrap .u8 (shrI .u16 w_ 8)), vy (IntKind.wrap .u8 (shrI .u16 w_ 8))] <| Rk <| Runs.ret ?_
 cases h
 exact Fq
theorem bits_High_L (w_ : Int) (r : Int) (h : bits_High w_ = some r) : L 26 [.w w_] = some (.y r, [.w w_]) := by
 obtain ⟨p, ⟨hne, hf⟩, hr⟩ := bits_High_ok w_ r h
 obtain ⟨k, hk⟩ := run_of (F := F26) (args := [.w w_]) (ap := [.w w_]) (bx0 := updW (fun _ => none) []) rfl rfl (by kernel_rfl) ⟨p, ⟨hne, hf⟩, hr⟩
 exact lim_run (k := k) rfl hk
def code_Put_h33 (i1 : Inst) (r4 : Row) (b_16 : (List Int)) (v_16 : Nat) : St := ⟨tab [(1, .ptr [1] 0 0), (4, .ptr [4] 0 0), (6, .ref [16] v_16 0 (mY b_16).length 1)], tabB [([1], some (.cells [.b i1.Lock, .i i1.Rep, .i i1.Seg, .y i1.Op, .i i1.Mod, .i i1.Reg, .i i1.RM, .w i1.Disp, .w i1.Imm, .w i1.Sel] 0)), ([4], some (.cells [.i r4.Name, .i r4.A, .i r4.B, .b r4.Mod] 0)), ([16], some (.arr (mY b_16) v_16 false))]⟩
def code_Put_Q (i_ : Inst) (r : ((List Int) × Int)) (p : Out × St) : Prop := (∀ i, p.1 ≠ .exit i) ∧ finF F8 [.d (Inst.d i_)] p.2 = some (.tup [.d (.sl (mY r.1)), .i r.2], [.d (Inst.d i_)])
theorem code_Put_j33_ok (i_ : Inst) (i1 : Inst) (r4 : Row) (b_16 : (List Int)) (v_16 : Nat) (r : ((List Int) × Int)) (h : code_Put_j33 i1 r4 b_16 = some r) : Runs L F8b33 (code_Put_h33 i1 r4 b_16 v_16) (code_Put_Q i_ r) := by
 unfold code_Put_j33 at h
 refine Sq <| Sq <| Ro <| Rc 1 [⟨.d (Row.d r4), []⟩] ?_
 obtain ⟨r_6, hr_6, h⟩ := bind_s h
 have hc_6 := inst_Imms_L r4 r_6 hr_6
 refine Rt (some 62) (.callf 27) [] none [.d (Row.d r4)] (.i r_6) [] (cc hc_6) <| Rk <| Runs.block <| Sq <| Ro <| Rc 2 [vb (r_6 == 1), vb (r_6 == 1)] <| Rk ?_
 cases hb_4 : ((r_6 == 1) : Bool) with
 | true =>
  replace h := ite_t hb_4 h
  refine Ct <| Ro <| Rc 3 [⟨.ref [16] v_16 0 (mY b_16).length 1, []⟩, vp [1] 0 8, vw i1.Imm] ?_
  obtain ⟨r_7, hr_7, h⟩ := bind_s h
  have hc_7 := bits_Low_L i1.Imm r_7 hr_7
  refine Rt (some 68) (.callf 25) [] none [.w i1.Imm] (.y r_7) [] (cc hc_7) <| Rc 1 [⟨.ref [69] 0 0 (mY ([r_7] : List Int)).length 1, [([69], some (.arr (mY ([r_7] : List Int)) 0 false))]⟩] ?_
  obtain ⟨z_4, hz_4, h⟩ := bind_s h
  refine Rt (some 70) (.append 1 1 false) [] none [.ref [16] v_16 0 (mY b_16).length 1, .ref [69] 0 0 (mY ([r_7] : List Int)).length 1] (.ref [16] (v_16 + 1) 0 (mY z_4).length 1) [([69], some (.arr (mY ([r_7] : List Int)) 0 true)), ([16], some (.arr (mY z_4) (v_16 + 1) false))] (cut_appR (e := (D.int .u8)) (l := b_16) (fz := false) (ws := [([69], some (.arr (mY ([r_7] : List Int)) 0 true))]) (ap_ref (e := (D.int .u8)) (l := ([r_7] : List Int)) (fz := false) (by kernel_rfl) (by kernel_rfl) rfl) (fun _ => rfl) hz_4 (by kernel_rfl) (by kernel_rfl) rfl) <| Rc 1 [⟨.ref [16] (v_16 + 1) 0 (mY z_4).length 1, []⟩] <| Rd <| kB_nrm <| kS_nrm <| Sq <| Ro <| Rc 3 [⟨.ref [16] (v_16 + 1) 0 (mY z_4).length 1, []⟩, ⟨.ref [16] (v_16 + 1) 0 (mY z_4).length 1, []⟩, vi 0] <| Rk <| Sq <| Runs.gcons (frz_ref (e := (D.int .u8)) (l := z_4) (id := [16]) (v := (v_16 + 1)) (n := 1) (fz := false) (by kernel_rfl) (by kernel_rfl) rfl) <| Runs.gnil <| kS_nrm <| Runs.ret ?_
  cases h
  exact Fq
 | false =>
  replace h := ite_f hb_4 h
  refine Cf <| Sq <| Ro <| Rc 2 [vb (r_6 == 2), vb (r_6 == 2)] <| Rk ?_
  cases hb_5 : ((r_6 == 2) : Bool) with
  | true =>
   replace h := ite_t hb_5 h
   refine Ct <| Ro <| Rc 3 [⟨.ref [16] v_16 0 (mY b_16).length 1, []⟩, vp [1] 0 8, vw i1.Imm] ?_
   obtain ⟨r_8, hr_8, h⟩ := bind_s h
   have hc_8 := bits_Low_L i1.Imm r_8 hr_8
   refine Rt (some 76) (.callf 25) [] (some []) [.w i1.Imm] (.y r_8) [] (cc hc_8) <| Rc 2 [vp [1] 0 8, vw i1.Imm] ?_
   obtain ⟨r_9, hr_9, h⟩ := bind_s h
   have hc_9 := bits_High_L i1.Imm r_9 hr_9
   refine Rt (some 79) (.callf 26) [] none [.w i1.Imm] (.y r_9) [] (cc hc_9) <| Rc 1 [⟨.ref [80] 0 0 (mY ([r_8, r_9] : List Int)).length 1, [([80], some (.arr (mY ([r_8, r_9] : List Int)) 0 false))]⟩] ?_
   obtain ⟨z_5, hz_5, h⟩ := bind_s h
   refine Rt (some 81) (.append 1 1 false) [] none [.ref [16] v_16 0 (mY b_16).length 1, .ref [80] 0 0 (mY ([r_8, r_9] : List Int)).length 1] (.ref [16] (v_16 + 1) 0 (mY z_5).length 1) [([80], some (.arr (mY ([r_8, r_9] : List Int)) 0 true)), ([16], some (.arr (mY z_5) (v_16 + 1) false))] (cut_appR (e := (D.int .u8)) (l := b_16) (fz := false) (ws := [([80], some (.arr (mY ([r_8, r_9] : List Int)) 0 true))]) (ap_ref (e := (D.int .u8)) (l := ([r_8, r_9] : List Int)) (fz := false) (by kernel_rfl) (by kernel_rfl) rfl) (fun _ => rfl) hz_5 (by kernel_rfl) (by kernel_rfl) rfl) <| Rc 1 [⟨.ref [16] (v_16 + 1) 0 (mY z_5).length 1, []⟩] <| Rd <| kB_nrm <| kS_nrm <| Sq <| Ro <| Rc 3 [⟨.ref [16] (v_16 + 1) 0 (mY z_5).length 1, []⟩, ⟨.ref [16] (v_16 + 1) 0 (mY z_5).length 1, []⟩, vi 0] <| Rk <| Sq <| Runs.gcons (frz_ref (e := (D.int .u8)) (l := z_5) (id := [16]) (v := (v_16 + 1)) (n := 1) (fz := false) (by kernel_rfl) (by kernel_rfl) rfl) <| Runs.gnil <| kS_nrm <| Runs.ret ?_
   cases h
   exact Fq
  | false =>
   replace h := ite_f hb_5 h
   refine Cf <| Sq <| Ro <| Rc 2 [vb (r_6 == 4), vb (r_6 == 4)] <| Rk ?_
   cases hb_6 : ((r_6 == 4) : Bool) with
   | true =>
    replace h := ite_t hb_6 h
    refine Ct <| Ro <| Rc 3 [⟨.ref [16] v_16 0 (mY b_16).length 1, []⟩, vp [1] 0 8, vw i1.Imm] ?_
    obtain ⟨r_10, hr_10, h⟩ := bind_s h
    have hc_10 := bits_Low_L i1.Imm r_10 hr_10
    refine Rt (some 87) (.callf 25) [] (some []) [.w i1.Imm] (.y r_10) [] (cc hc_10) <| Rc 2 [vp [1] 0 8, vw i1.Imm] ?_
    obtain ⟨r_11, hr_11, h⟩ := bind_s h
    have hc_11 := bits_High_L i1.Imm r_11 hr_11
    refine Rt (some 90) (.callf 26) [] (some []) [.w i1.Imm] (.y r_11) [] (cc hc_11) <| Rc 2 [vp [1] 0 9, vw i1.Sel] ?_
    obtain ⟨r_12, hr_12, h⟩ := bind_s h
    have hc_12 := bits_Low_L i1.Sel r_12 hr_12
    refine Rt (some 93) (.callf 25) [] (some []) [.w i1.Sel] (.y r_12) [] (cc hc_12) <| Rc 2 [vp [1] 0 9, vw i1.Sel] ?_
    obtain ⟨r_13, hr_13, h⟩ := bind_s h
    have hc_13 := bits_High_L i1.Sel r_13 hr_13
    refine Rt (some 96) (.callf 26) [] none [.w i1.Sel] (.y r_13) [] (cc hc_13) <| Rc 1 [⟨.ref [97] 0 0 (mY ([r_10, r_11, r_12, r_13] : List Int)).length 1, [([97], some (.arr (mY ([r_10, r_11, r_12, r_13] : List Int)) 0 false))]⟩] ?_
    obtain ⟨z_6, hz_6, h⟩ := bind_s h
    refine Rt (some 98) (.append 1 1 false) [] none [.ref [16] v_16 0 (mY b_16).length 1, .ref [97] 0 0 (mY ([r_10, r_11, r_12, r_13] : List Int)).length 1] (.ref [16] (v_16 + 1) 0 (mY z_6).length 1) [([97], some (.arr (mY ([r_10, r_11, r_12, r_13] : List Int)) 0 true)), ([16], some (.arr (mY z_6) (v_16 + 1) false))] (cut_appR (e := (D.int .u8)) (l := b_16) (fz := false) (ws := [([97], some (.arr (mY ([r_10, r_11, r_12, r_13] : List Int)) 0 true))]) (ap_ref (e := (D.int .u8)) (l := ([r_10, r_11, r_12, r_13] : List Int)) (fz := false) (by kernel_rfl) (by kernel_rfl) rfl) (fun _ => rfl) hz_6 (by kernel_rfl) (by kernel_rfl) rfl) <| Rc 1 [⟨.ref [16] (v_16 + 1) 0 (mY z_6).length 1, []⟩] <| Rd <| kB_nrm <| kS_nrm <| Sq <| Ro <| Rc 3 [⟨.ref [16] (v_16 + 1) 0 (mY z_6).length 1, []⟩, ⟨.ref [16] (v_16 + 1) 0 (mY z_6).length 1, []⟩, vi 0] <| Rk <| Sq <| Runs.gcons (frz_ref (e := (D.int .u8)) (l := z_6) (id := [16]) (v := (v_16 + 1)) (n := 1) (fz := false) (by kernel_rfl) (by kernel_rfl) rfl) <| Runs.gnil <| kS_nrm <| Runs.ret ?_
    cases h
    exact Fq
   | false =>
    replace h := ite_f hb_6 h
    refine Cf <| Runs.skip <| kB_nrm <| kS_nrm <| Sq <| Ro <| Rc 3 [⟨.ref [16] v_16 0 (mY b_16).length 1, []⟩, ⟨.ref [16] v_16 0 (mY b_16).length 1, []⟩, vi 0] <| Rk <| Sq <| Runs.gcons (frz_ref (e := (D.int .u8)) (l := b_16) (id := [16]) (v := v_16) (n := 1) (fz := false) (by kernel_rfl) (by kernel_rfl) rfl) <| Runs.gnil <| kS_nrm <| Runs.ret ?_
    cases h
    exact Fq
theorem code_Put_ok (i_ : Inst) (r : ((List Int) × Int)) (h : code_Put i_ = some r) : Runs L F8.body ⟨tmOf [.d (Inst.d i_)] 0, updW (fun _ => none) []⟩ (code_Put_Q i_ r) := by
 unfold code_Put at h
 refine Sq <| Ro <| Rc 3 [⟨.ptr [1] 0 0, [([1], some (.cells [.b i_.Lock, .i i_.Rep, .i i_.Seg, .y i_.Op, .i i_.Mod, .i i_.Reg, .i i_.RM, .w i_.Disp, .w i_.Imm, .w i_.Sel] 0))]⟩, ⟨.nils, []⟩, vi 0] <| Rk <| Sq <| Sq <| Ro <| Rc 1 [⟨.d (Inst.d i_), []⟩] ?_
 obtain ⟨r_1, hr_1, h⟩ := bind_s h
 have hc_1 := inst_May_L i_ r_1 hr_1
 refine Rt (some 8) (.callf 21) [] none [.d (Inst.d i_)] (.b r_1) [] (cc hc_1) <| Rc 1 [vb (!r_1)] <| Rk ?_
 cases hb_1 : ((!r_1) : Bool) with
 | true =>
  replace h := ite_t hb_1 h
  refine Ct <| Sq <| Ro <| Rc 2 [⟨.nils, []⟩, vi 1] <| Rk <| Sq <| Runs.gcons (frz_nil (D.int .u8) (by kernel_rfl)) <| Runs.gnil <| kS_nrm <| Runs.ret <| kS_ret ?_
  cases h
  exact Fq
 | false =>
  replace h := ite_f hb_1 h
  refine Cf <| Runs.skip <| kS_nrm <| Sq <| Ro <| Rc 1 [⟨.d (Inst.d i_), []⟩] ?_
  obtain ⟨r_2, hr_2, h⟩ := bind_s h
  have hc_2 := inst_Row_L i_ r_2 hr_2
  refine Rt (some 12) (.callf 22) [] none [.d (Inst.d i_)] (.tup [.d (Row.d r_2.1), .b r_2.2]) [] (cc hc_2) <| Rc 6 [⟨.tup [.d (Row.d r_2.1), .b r_2.2], []⟩, ⟨.d (Row.d r_2.1), []⟩, vb r_2.2, ⟨.ptr [4] 0 0, [([4], some (.cells [.i 0, .i 0, .i 0, .b false] 0))]⟩, ⟨.tup [], [([4], some (.cells [.i r_2.1.Name, .i r_2.1.A, .i r_2.1.B, .b r_2.1.Mod] 0))]⟩, vb r_2.2] <| Rk <| Sq <| Ro <| Rc 1 [⟨.d (Inst.d i_), []⟩] ?_
  obtain ⟨r_3, hr_3, h⟩ := bind_s h
  have hc_3 := code_ahead_L i_ r_3 hr_3
  refine Rt (some 16) (.callf 23) [[19]] (some []) [.d (Inst.d i_)] (.ref [16] 0 0 (mY r_3).length 1) [([16], some (.arr (mY r_3) 0 false))] (cut_call (call_of (ws := []) (us := []) (by kernel_rfl) (gives_cons (ws := []) (give_same (by kernel_rfl)) gives_nil) hc_3 (by kernel_rfl) (by kernel_rfl))) <| Rc 3 [vp [1] 0 3, vy i_.Op, ⟨.ref [19] 0 0 (mY ([i_.Op] : List Int)).length 1, [([19], some (.arr (mY ([i_.Op] : List Int)) 0 false))]⟩] ?_
  obtain ⟨z_1, hz_1, h⟩ := bind_s h
  refine Rt (some 20) (.append 1 1 false) [] none [.ref [16] 0 0 (mY r_3).length 1, .ref [19] 0 0 (mY ([i_.Op] : List Int)).length 1] (.ref [16] 1 0 (mY z_1).length 1) [([19], some (.arr (mY ([i_.Op] : List Int)) 0 true)), ([16], some (.arr (mY z_1) 1 false))] (cut_appR (e := (D.int .u8)) (l := r_3) (fz := false) (ws := [([19], some (.arr (mY ([i_.Op] : List Int)) 0 true))]) (ap_ref (e := (D.int .u8)) (l := ([i_.Op] : List Int)) (fz := false) (by kernel_rfl) (by kernel_rfl) rfl) (fun _ => rfl) hz_1 (by kernel_rfl) (by kernel_rfl) rfl) <| Rc 1 [⟨.ref [16] 1 0 (mY z_1).length 1, []⟩] <| Rk <| Sq <| Sq <| Ro <| Rc 2 [vp [4] 0 3, vb r_2.1.Mod] <| Rk ?_
  cases hb_2 : (r_2.1.Mod : Bool) with
  | true =>
   replace h := ite_t hb_2 h
   refine Ct <| Sq <| Ro <| Rc 13 [⟨.ref [16] 1 0 (mY z_1).length 1, []⟩, vp [1] 0 4, vi i_.Mod, vi (shlI .i64 i_.Mod 6), vp [1] 0 5, vi i_.Reg, vi (shlI .i64 i_.Reg 3), vi (bitsOp .or .i64 (shlI .i64 i_.Mod 6) (shlI .i64 i_.Reg 3)), vp [1] 0 6, vi i_.RM, vi (bitsOp .or .i64 (bitsOp .or .i64 (shlI .i64 i_.Mod 6) (shlI .i64 i_.Reg 3)) i_.RM), vy (IntKind.wrap .u8 (bitsOp .or .i64 (bitsOp .or .i64 (shlI .i64 i_.Mod 6) (shlI .i64 i_.Reg 3)) i_.RM)), ⟨.ref [35] 0 0 (mY ([(IntKind.wrap .u8 (bitsOp .or .i64 (bitsOp .or .i64 (shlI .i64 i_.Mod 6) (shlI .i64 i_.Reg 3)) i_.RM))] : List Int)).length 1, [([35], some (.arr (mY ([(IntKind.wrap .u8 (bitsOp .or .i64 (bitsOp .or .i64 (shlI .i64 i_.Mod 6) (shlI .i64 i_.Reg 3)) i_.RM))] : List Int)) 0 false))]⟩] ?_
   obtain ⟨z_2, hz_2, h⟩ := bind_s h
   refine Rt (some 36) (.append 1 1 false) [] none [.ref [16] 1 0 (mY z_1).length 1, .ref [35] 0 0 (mY ([(IntKind.wrap .u8 (bitsOp .or .i64 (bitsOp .or .i64 (shlI .i64 i_.Mod 6) (shlI .i64 i_.Reg 3)) i_.RM))] : List Int)).length 1] (.ref [16] 2 0 (mY z_2).length 1) [([35], some (.arr (mY ([(IntKind.wrap .u8 (bitsOp .or .i64 (bitsOp .or .i64 (shlI .i64 i_.Mod 6) (shlI .i64 i_.Reg 3)) i_.RM))] : List Int)) 0 true)), ([16], some (.arr (mY z_2) 2 false))] (cut_appR (e := (D.int .u8)) (l := z_1) (fz := false) (ws := [([35], some (.arr (mY ([(IntKind.wrap .u8 (bitsOp .or .i64 (bitsOp .or .i64 (shlI .i64 i_.Mod 6) (shlI .i64 i_.Reg 3)) i_.RM))] : List Int)) 0 true))]) (ap_ref (e := (D.int .u8)) (l := ([(IntKind.wrap .u8 (bitsOp .or .i64 (bitsOp .or .i64 (shlI .i64 i_.Mod 6) (shlI .i64 i_.Reg 3)) i_.RM))] : List Int)) (fz := false) (by kernel_rfl) (by kernel_rfl) rfl) (fun _ => rfl) hz_2 (by kernel_rfl) (by kernel_rfl) rfl) <| Rc 1 [⟨.ref [16] 2 0 (mY z_2).length 1, []⟩] <| Rk <| Sq <| Ro <| Rc 4 [vp [1] 0 4, vi i_.Mod, vp [1] 0 6, vi i_.RM] ?_
   obtain ⟨r_4, hr_4, h⟩ := bind_s h
   have hc_4 := inst_Disps_L i_.Mod i_.RM r_4 hr_4
   refine Rt (some 41) (.callf 24) [] none [.i i_.Mod, .i i_.RM] (.i r_4) [] (cc hc_4) <| Rk <| Runs.block <| Sq <| Ro <| Rc 2 [vb (r_4 == 1), vb (r_4 == 1)] <| Rk ?_
   cases hb_3 : ((r_4 == 1) : Bool) with
   | true =>
    replace h := ite_t hb_3 h
    refine Ct <| Ro <| Rc 3 [⟨.ref [16] 2 0 (mY z_2).length 1, []⟩, vp [1] 0 7, vw i_.Disp] ?_
    obtain ⟨r_5, hr_5, h⟩ := bind_s h
    have hc_5 := bits_Low_L i_.Disp r_5 hr_5
    refine Rt (some 47) (.callf 25) [] none [.w i_.Disp] (.y r_5) [] (cc hc_5) <| Rc 1 [⟨.ref [48] 0 0 (mY ([r_5] : List Int)).length 1, [([48], some (.arr (mY ([r_5] : List Int)) 0 false))]⟩] ?_
    obtain ⟨z_3, hz_3, h⟩ := bind_s h
    refine Rt (some 49) (.append 1 1 false) [] none [.ref [16] 2 0 (mY z_2).length 1, .ref [48] 0 0 (mY ([r_5] : List Int)).length 1] (.ref [16] 3 0 (mY z_3).length 1) [([48], some (.arr (mY ([r_5] : List Int)) 0 true)), ([16], some (.arr (mY z_3) 3 false))] (cut_appR (e := (D.int .u8)) (l := z_2) (fz := false) (ws := [([48], some (.arr (mY ([r_5] : List Int)) 0 true))]) (ap_ref (e := (D.int .u8)) (l := ([r_5] : List Int)) (fz := false) (by kernel_rfl) (by kernel_rfl) rfl) (fun _ => rfl) hz_3 (by kernel_rfl) (by kernel_rfl) rfl) <| Rc 1 [⟨.ref [16] 3 0 (mY z_3).length 1, []⟩] <| Rd <| kB_nrm <| kS_nrm <| Runs.canon (code_Put_h33 i_ ({ r_2.1 with Mod := true } : Row) z_3 3) Cz ?_
    exact code_Put_j33_ok i_ i_ ({ r_2.1 with Mod := true } : Row) z_3 3 r h
   | false =>
    replace h := ite_f hb_3 h
    refine Cf <| Sq <| Ro <| Rc 2 [vb (r_4 == 2), vb (r_4 == 2)] <| Rk ?_
    cases hb_7 : ((r_4 == 2) : Bool) with
    | true =>
     replace h := ite_t hb_7 h
     refine Ct <| Ro <| Rc 3 [⟨.ref [16] 2 0 (mY z_2).length 1, []⟩, vp [1] 0 7, vw i_.Disp] ?_
     obtain ⟨r_14, hr_14, h⟩ := bind_s h
     have hc_14 := bits_Low_L i_.Disp r_14 hr_14
     refine Rt (some 55) (.callf 25) [] (some []) [.w i_.Disp] (.y r_14) [] (cc hc_14) <| Rc 2 [vp [1] 0 7, vw i_.Disp] ?_
     obtain ⟨r_15, hr_15, h⟩ := bind_s h
     have hc_15 := bits_High_L i_.Disp r_15 hr_15
     refine Rt (some 58) (.callf 26) [] none [.w i_.Disp] (.y r_15) [] (cc hc_15) <| Rc 1 [⟨.ref [59] 0 0 (mY ([r_14, r_15] : List Int)).length 1, [([59], some (.arr (mY ([r_14, r_15] : List Int)) 0 false))]⟩] ?_
     obtain ⟨z_7, hz_7, h⟩ := bind_s h
     refine Rt (some 60) (.append 1 1 false) [] none [.ref [16] 2 0 (mY z_2).length 1, .ref [59] 0 0 (mY ([r_14, r_15] : List Int)).length 1] (.ref [16] 3 0 (mY z_7).length 1) [([59], some (.arr (mY ([r_14, r_15] : List Int)) 0 true)), ([16], some (.arr (mY z_7) 3 false))] (cut_appR (e := (D.int .u8)) (l := z_2) (fz := false) (ws := [([59], some (.arr (mY ([r_14, r_15] : List Int)) 0 true))]) (ap_ref (e := (D.int .u8)) (l := ([r_14, r_15] : List Int)) (fz := false) (by kernel_rfl) (by kernel_rfl) rfl) (fun _ => rfl) hz_7 (by kernel_rfl) (by kernel_rfl) rfl) <| Rc 1 [⟨.ref [16] 3 0 (mY z_7).length 1, []⟩] <| Rd <| kB_nrm <| kS_nrm <| Runs.canon (code_Put_h33 i_ ({ r_2.1 with Mod := true } : Row) z_7 3) Cz ?_
     exact code_Put_j33_ok i_ i_ ({ r_2.1 with Mod := true } : Row) z_7 3 r h
    | false =>
     replace h := ite_f hb_7 h
     refine Cf <| Runs.skip <| kB_nrm <| kS_nrm <| Runs.canon (code_Put_h33 i_ ({ r_2.1 with Mod := true } : Row) z_2 2) Cz ?_
     exact code_Put_j33_ok i_ i_ ({ r_2.1 with Mod := true } : Row) z_2 2 r h
  | false =>
   replace h := ite_f hb_2 h
   refine Cf <| Runs.skip <| kS_nrm <| Runs.canon (code_Put_h33 i_ ({ r_2.1 with Mod := false } : Row) z_1 1) Cz ?_
   exact code_Put_j33_ok i_ i_ ({ r_2.1 with Mod := false } : Row) z_1 1 r h
theorem code_Put_L (i_ : Inst) (r : ((List Int) × Int)) (h : code_Put i_ = some r) : L 8 [.d (Inst.d i_)] = some (.tup [.d (.sl (mY r.1)), .i r.2], [.d (Inst.d i_)]) := by
 obtain ⟨p, ⟨hne, hf⟩, hr⟩ := code_Put_ok i_ r h
 obtain ⟨k, hk⟩ := run_of (F := F8) (args := [.d (Inst.d i_)]) (ap := [.d (Inst.d i_)]) (bx0 := updW (fun _ => none) []) rfl rfl (by kernel_rfl) ⟨p, ⟨hne, hf⟩, hr⟩
 exact lim_run (k := k) rfl hk
def emit_imm_Q (c_ : Choice) (r_ : Row) (tail_ : Int) (from_ : Int) (which_ : Int) (r : Fixup) (p : Out × St) : Prop := (∀ i, p.1 ≠ .exit i) ∧ finF F36 [.d (Choice.d c_), .d (Row.d r_), .i tail_, .i from_, .i which_] p.2 = some (.d (Fixup.d r), [.d (Choice.d c_), .d (Row.d r_), .i tail_, .i from_, .i which_])
theorem emit_imm_ok (c_ : Choice) (r_ : Row) (tail_ : Int) (from_ : Int) (which_ : Int) (r : Fixup) (h : emit_imm c_ r_ tail_ from_ which_ = some r) : Runs L F36.body ⟨tmOf [.d (Choice.d c_), .d (Row.d r_), .i tail_, .i from_, .i which_] 0, updW (fun _ => none) []⟩ (emit_imm_Q c_ r_ tail_ from_ which_ r) := by
 unfold emit_imm at h
 refine Sq <| Ro <| Rc 3 [⟨.ptr [5] 0 0, [([5], some (.cells [.b c_.I.Lock, .i c_.I.Rep, .i c_.I.Seg, .y c_.I.Op, .i c_.I.Mod, .i c_.I.Reg, .i c_.I.RM, .w c_.I.Disp, .w c_.I.Imm, .w c_.I.Sel, .i c_.Disp.N, .i c_.Disp.From, .i c_.Disp.Which, .i c_.Disp.Type_, .i c_.Disp.Wants, .b c_.Disp.Known, .i c_.Imm.N, .i c_.Imm.From, .i c_.Imm.Which, .i c_.Imm.Type_, .i c_.Imm.Wants, .b c_.Imm.Known, .b c_.HasD, .b c_.HasI, .b c_.Jumps] 0))]⟩, ⟨.ptr [6] 0 0, [([6], some (.cells [.i r_.Name, .i r_.A, .i r_.B, .b r_.Mod] 0))]⟩, ⟨.ptr [10] 0 0, [([10], some (.cells [.i 0, .i 0, .b false, .i 0, .i 0, .i 0, .i 0, .w 0] 0))]⟩] <| Rk <| Sq <| Runs.block <| Sq <| Ro <| Rc 5 [vp [5] 0 16, vp [5] 0 20, vi c_.Imm.Wants, vb (c_.Imm.Wants == 2), vb (c_.Imm.Wants == 2)] <| Rk ?_
 cases hb_1 : ((c_.Imm.Wants == 2) : Bool) with
 | true =>
  replace h := ite_t hb_1 h
  refine Ct <| Sq <| Ro <| Rc 3 [vi tail_, vp [5] 0 16, ⟨.d (api_Value.d c_.Imm), []⟩] ?_
  obtain ⟨r_1, hr_1, h⟩ := bind_s h
  have hc_1 := emit_Fix_L tail_ 2 c_.Imm 0 0 r_1 hr_1
  refine Rt (some 19) (.callf 35) [] none [.i tail_, .i 2, .d (api_Value.d c_.Imm), .i 0, .i 0] (.d (Fixup.d r_1)) [] (cc hc_1) <| Rc 1 [⟨.tup [], [([10], some (.cells [.i r_1.At, .i r_1.Loc, .b r_1.Self, .i r_1.Frame, .i r_1.FrameN, .i r_1.Target, .i r_1.N, .w r_1.Disp] 0))]⟩] <| Rk <| Runs.ret <| kB_ret <| kS_ret ?_
  cases h
  exact Fq
 | false =>
  replace h := ite_f hb_1 h
  refine Cf <| Sq <| Ro <| Rc 4 [vp [6] 0 1, vi r_.A, vb (r_.A == 12), vb (r_.A == 12)] ?_
  cases hb_2 : ((r_.A == 12) : Bool) with
  | true =>
   replace h := ite_t hb_2 h
   refine Rc 15 [vn, vn, vn, vb true, vb true, vn, vn, vn, vb true, vb true, vn, vn, vn, vb true, vb true] <| Rk <| Ct <| Sq <| Ro <| Rc 5 [vi tail_, vp [5] 0 16, ⟨.d (api_Value.d c_.Imm), []⟩, vi from_, vi which_] ?_
   obtain ⟨r_2, hr_2, h⟩ := bind_s h
   have hc_2 := emit_Fix_L tail_ 1 c_.Imm from_ which_ r_2 hr_2
   refine Rt (some 44) (.callf 35) [] none [.i tail_, .i 1, .d (api_Value.d c_.Imm), .i from_, .i which_] (.d (Fixup.d r_2)) [] (cc hc_2) <| Rc 1 [⟨.tup [], [([10], some (.cells [.i r_2.At, .i r_2.Loc, .b r_2.Self, .i r_2.Frame, .i r_2.FrameN, .i r_2.Target, .i r_2.N, .w r_2.Disp] 0))]⟩] <| Rk <| Runs.ret <| kB_ret <| kS_ret ?_
   cases h
   exact Fq
  | false =>
   replace h := ite_f hb_2 h
   refine Rc 5 [vp [6] 0 1, vi r_.A, vb (r_.A == 13), vb (r_.A == 13), vb (r_.A == 13)] ?_
   cases hb_3 : ((r_.A == 13) : Bool) with
   | true =>
    replace h := ite_t hb_3 h
    refine Rc 10 [vn, vn, vn, vb true, vb true, vn, vn, vn, vb true, vb true] <| Rk <| Ct <| Sq <| Ro <| Rc 5 [vi tail_, vp [5] 0 16, ⟨.d (api_Value.d c_.Imm), []⟩, vi from_, vi which_] ?_
    obtain ⟨r_3, hr_3, h⟩ := bind_s h
    have hc_3 := emit_Fix_L tail_ 1 c_.Imm from_ which_ r_3 hr_3
    refine Rt (some 44) (.callf 35) [] none [.i tail_, .i 1, .d (api_Value.d c_.Imm), .i from_, .i which_] (.d (Fixup.d r_3)) [] (cc hc_3) <| Rc 1 [⟨.tup [], [([10], some (.cells [.i r_3.At, .i r_3.Loc, .b r_3.Self, .i r_3.Frame, .i r_3.FrameN, .i r_3.Target, .i r_3.N, .w r_3.Disp] 0))]⟩] <| Rk <| Runs.ret <| kB_ret <| kS_ret ?_
    cases h
    exact Fq
   | false =>
    replace h := ite_f hb_3 h
    refine Rc 5 [vp [6] 0 2, vi r_.B, vb (r_.B == 12), vb (r_.B == 12), vb (r_.B == 12)] ?_
    cases hb_4 : ((r_.B == 12) : Bool) with
    | true =>
     replace h := ite_t hb_4 h
     refine Rc 5 [vn, vn, vn, vb true, vb true] <| Rk <| Ct <| Sq <| Ro <| Rc 5 [vi tail_, vp [5] 0 16, ⟨.d (api_Value.d c_.Imm), []⟩, vi from_, vi which_] ?_
     obtain ⟨r_4, hr_4, h⟩ := bind_s h
     have hc_4 := emit_Fix_L tail_ 1 c_.Imm from_ which_ r_4 hr_4
     refine Rt (some 44) (.callf 35) [] none [.i tail_, .i 1, .d (api_Value.d c_.Imm), .i from_, .i which_] (.d (Fixup.d r_4)) [] (cc hc_4) <| Rc 1 [⟨.tup [], [([10], some (.cells [.i r_4.At, .i r_4.Loc, .b r_4.Self, .i r_4.Frame, .i r_4.FrameN, .i r_4.Target, .i r_4.N, .w r_4.Disp] 0))]⟩] <| Rk <| Runs.ret <| kB_ret <| kS_ret ?_
     cases h
     exact Fq
    | false =>
     replace h := ite_f hb_4 h
     refine Rc 5 [vp [6] 0 2, vi r_.B, vb (r_.B == 13), vb (r_.B == 13), vb (r_.B == 13)] <| Rk ?_
     cases hb_5 : ((r_.B == 13) : Bool) with
     | true =>
      replace h := ite_t hb_5 h
      refine Ct <| Sq <| Ro <| Rc 5 [vi tail_, vp [5] 0 16, ⟨.d (api_Value.d c_.Imm), []⟩, vi from_, vi which_] ?_
      obtain ⟨r_5, hr_5, h⟩ := bind_s h
      have hc_5 := emit_Fix_L tail_ 1 c_.Imm from_ which_ r_5 hr_5
      refine Rt (some 44) (.callf 35) [] none [.i tail_, .i 1, .d (api_Value.d c_.Imm), .i from_, .i which_] (.d (Fixup.d r_5)) [] (cc hc_5) <| Rc 1 [⟨.tup [], [([10], some (.cells [.i r_5.At, .i r_5.Loc, .b r_5.Self, .i r_5.Frame, .i r_5.FrameN, .i r_5.Target, .i r_5.N, .w r_5.Disp] 0))]⟩] <| Rk <| Runs.ret <| kB_ret <| kS_ret ?_
      cases h
      exact Fq
     | false =>
      replace h := ite_f hb_5 h
      refine Cf <| Runs.skip <| kB_nrm <| kS_nrm <| Sq <| Ro <| Rc 3 [vi tail_, vp [5] 0 16, ⟨.d (api_Value.d c_.Imm), []⟩] ?_
      obtain ⟨r_6, hr_6, h⟩ := bind_s h
      have hc_6 := emit_Fix_L tail_ 1 c_.Imm 0 0 r_6 hr_6
      refine Rt (some 48) (.callf 35) [] none [.i tail_, .i 1, .d (api_Value.d c_.Imm), .i 0, .i 0] (.d (Fixup.d r_6)) [] (cc hc_6) <| Rc 1 [⟨.tup [], [([10], some (.cells [.i r_6.At, .i r_6.Loc, .b r_6.Self, .i r_6.Frame, .i r_6.FrameN, .i r_6.Target, .i r_6.N, .w r_6.Disp] 0))]⟩] <| Rk <| Runs.ret ?_
      cases h
      exact Fq
theorem emit_imm_L (c_ : Choice) (r_ : Row) (tail_ : Int) (from_ : Int) (which_ : Int) (r : Fixup) (h : emit_imm c_ r_ tail_ from_ which_ = some r) : L 36 [.d (Choice.d c_), .d (Row.d r_), .i tail_, .i from_, .i which_] = some (.d (Fixup.d r), [.d (Choice.d c_), .d (Row.d r_), .i tail_, .i from_, .i which_]) := by
 obtain ⟨p, ⟨hne, hf⟩, hr⟩ := emit_imm_ok c_ r_ tail_ from_ which_ r h
 obtain ⟨k, hk⟩ := run_of (F := F36) (args := [.d (Choice.d c_), .d (Row.d r_), .i tail_, .i from_, .i which_]) (ap := [.d (Choice.d c_), .d (Row.d r_), .i tail_, .i from_, .i which_]) (bx0 := updW (fun _ => none) []) rfl rfl (by kernel_rfl) ⟨p, ⟨hne, hf⟩, hr⟩
 exact lim_run (k := k) rfl hk
def emit_Inst_h8 (c5 : Choice) (i13 : Inst) (out15 : (List Fixup)) (seg1 : Int) (off2 : Int) (from3 : Int) (which4 : Int) (n14 : Int) (v_15 : Nat) : St := ⟨tab [(1, .i seg1), (2, .i off2), (3, .i from3), (4, .i which4), (5, .ptr [5] 0 0), (13, .ptr [13] 0 0), (14, .i n14), (15, .ref [15] v_15 0 (List.map Fixup.d out15).length 8)], tabB [([5], some (.cells [.b c5.I.Lock, .i c5.I.Rep, .i c5.I.Seg, .y c5.I.Op, .i c5.I.Mod, .i c5.I.Reg, .i c5.I.RM, .w c5.I.Disp, .w c5.I.Imm, .w c5.I.Sel, .i c5.Disp.N, .i c5.Disp.From, .i c5.Disp.Which, .i c5.Disp.Type_, .i c5.Disp.Wants, .b c5.Disp.Known, .i c5.Imm.N, .i c5.Imm.From, .i c5.Imm.Which, .i c5.Imm.Type_, .i c5.Imm.Wants, .b c5.Imm.Known, .b c5.HasD, .b c5.HasI, .b c5.Jumps] 0)), ([13], some (.cells [.b i13.Lock, .i i13.Rep, .i i13.Seg, .y i13.Op, .i i13.Mod, .i i13.Reg, .i i13.RM, .w i13.Disp, .w i13.Imm, .w i13.Sel] 0)), ([15], some (.arr (List.map Fixup.d out15) v_15 false))]⟩
def emit_Inst_h20 (c5 : Choice) (i13 : Inst) (r16 : Row) (out15 : (List Fixup)) (seg1 : Int) (off2 : Int) (from3 : Int) (which4 : Int) (n14 : Int) (tail18 : Int) (v_15 : Nat) : St := ⟨tab [(1, .i seg1), (2, .i off2), (3, .i from3), (4, .i which4), (5, .ptr [5] 0 0), (13, .ptr [13] 0 0), (14, .i n14), (15, .ref [15] v_15 0 (List.map Fixup.d out15).length 8), (16, .ptr [16] 0 0), (18, .i tail18)], tabB [([5], some (.cells [.b c5.I.Lock, .i c5.I.Rep, .i c5.I.Seg, .y c5.I.Op, .i c5.I.Mod, .i c5.I.Reg, .i c5.I.RM, .w c5.I.Disp, .w c5.I.Imm, .w c5.I.Sel, .i c5.Disp.N, .i c5.Disp.From, .i c5.Disp.Which, .i c5.Disp.Type_, .i c5.Disp.Wants, .b c5.Disp.Known, .i c5.Imm.N, .i c5.Imm.From, .i c5.Imm.Which, .i c5.Imm.Type_, .i c5.Imm.Wants, .b c5.Imm.Known, .b c5.HasD, .b c5.HasI, .b c5.Jumps] 0)), ([13], some (.cells [.b i13.Lock, .i i13.Rep, .i i13.Seg, .y i13.Op, .i i13.Mod, .i i13.Reg, .i i13.RM, .w i13.Disp, .w i13.Imm, .w i13.Sel] 0)), ([15], some (.arr (List.map Fixup.d out15) v_15 false)), ([16], some (.cells [.i r16.Name, .i r16.A, .i r16.B, .b r16.Mod] 0))]⟩
def emit_Inst_h24 (c5 : Choice) (i13 : Inst) (r16 : Row) (out15 : (List Fixup)) (seg1 : Int) (off2 : Int) (from3 : Int) (which4 : Int) (n14 : Int) (tail18 : Int) (t53 : Bool) (v_15 : Nat) : St := ⟨tab [(1, .i seg1), (2, .i off2), (3, .i from3), (4, .i which4), (5, .ptr [5] 0 0), (13, .ptr [13] 0 0), (14, .i n14), (15, .ref [15] v_15 0 (List.map Fixup.d out15).length 8), (16, .ptr [16] 0 0), (18, .i tail18), (53, .b t53)], tabB [([5], some (.cells [.b c5.I.Lock, .i c5.I.Rep, .i c5.I.Seg, .y c5.I.Op, .i c5.I.Mod, .i c5.I.Reg, .i c5.I.RM, .w c5.I.Disp, .w c5.I.Imm, .w c5.I.Sel, .i c5.Disp.N, .i c5.Disp.From, .i c5.Disp.Which, .i c5.Disp.Type_, .i c5.Disp.Wants, .b c5.Disp.Known, .i c5.Imm.N, .i c5.Imm.From, .i c5.Imm.Which, .i c5.Imm.Type_, .i c5.Imm.Wants, .b c5.Imm.Known, .b c5.HasD, .b c5.HasI, .b c5.Jumps] 0)), ([13], some (.cells [.b i13.Lock, .i i13.Rep, .i i13.Seg, .y i13.Op, .i i13.Mod, .i i13.Reg, .i i13.RM, .w i13.Disp, .w i13.Imm, .w i13.Sel] 0)), ([15], some (.arr (List.map Fixup.d out15) v_15 false)), ([16], some (.cells [.i r16.Name, .i r16.A, .i r16.B, .b r16.Mod] 0))]⟩
def emit_Inst_h49 (c5 : Choice) (i13 : Inst) (r16 : Row) (out15 : (List Fixup)) (seg1 : Int) (d20 : Int) (v_15 : Nat) : St := ⟨tab [(1, .i seg1), (5, .ptr [5] 0 0), (13, .ptr [13] 0 0), (15, .ref [15] v_15 0 (List.map Fixup.d out15).length 8), (16, .ptr [16] 0 0), (20, .i d20)], tabB [([5], some (.cells [.b c5.I.Lock, .i c5.I.Rep, .i c5.I.Seg, .y c5.I.Op, .i c5.I.Mod, .i c5.I.Reg, .i c5.I.RM, .w c5.I.Disp, .w c5.I.Imm, .w c5.I.Sel, .i c5.Disp.N, .i c5.Disp.From, .i c5.Disp.Which, .i c5.Disp.Type_, .i c5.Disp.Wants, .b c5.Disp.Known, .i c5.Imm.N, .i c5.Imm.From, .i c5.Imm.Which, .i c5.Imm.Type_, .i c5.Imm.Wants, .b c5.Imm.Known, .b c5.HasD, .b c5.HasI, .b c5.Jumps] 0)), ([13], some (.cells [.b i13.Lock, .i i13.Rep, .i i13.Seg, .y i13.Op, .i i13.Mod, .i i13.Reg, .i i13.RM, .w i13.Disp, .w i13.Imm, .w i13.Sel] 0)), ([15], some (.arr (List.map Fixup.d out15) v_15 false)), ([16], some (.cells [.i r16.Name, .i r16.A, .i r16.B, .b r16.Mod] 0))]⟩
def emit_Inst_h60 (c5 : Choice) (i13 : Inst) (r16 : Row) (out15 : (List Fixup)) (from3 : Int) (which4 : Int) (tail18 : Int) (t115 : Bool) (v_15 : Nat) : St := ⟨tab [(3, .i from3), (4, .i which4), (5, .ptr [5] 0 0), (13, .ptr [13] 0 0), (15, .ref [15] v_15 0 (List.map Fixup.d out15).length 8), (16, .ptr [16] 0 0), (18, .i tail18), (115, .b t115)], tabB [([5], some (.cells [.b c5.I.Lock, .i c5.I.Rep, .i c5.I.Seg, .y c5.I.Op, .i c5.I.Mod, .i c5.I.Reg, .i c5.I.RM, .w c5.I.Disp, .w c5.I.Imm, .w c5.I.Sel, .i c5.Disp.N, .i c5.Disp.From, .i c5.Disp.Which, .i c5.Disp.Type_, .i c5.Disp.Wants, .b c5.Disp.Known, .i c5.Imm.N, .i c5.Imm.From, .i c5.Imm.Which, .i c5.Imm.Type_, .i c5.Imm.Wants, .b c5.Imm.Known, .b c5.HasD, .b c5.HasI, .b c5.Jumps] 0)), ([13], some (.cells [.b i13.Lock, .i i13.Rep, .i i13.Seg, .y i13.Op, .i i13.Mod, .i i13.Reg, .i i13.RM, .w i13.Disp, .w i13.Imm, .w i13.Sel] 0)), ([15], some (.arr (List.map Fixup.d out15) v_15 false)), ([16], some (.cells [.i r16.Name, .i r16.A, .i r16.B, .b r16.Mod] 0))]⟩
def emit_Inst_Q (c_ : Choice) (seg_ : Int) (off_ : Int) (from_ : Int) (which_ : Int) (r : ((List Int) × (List Fixup) × Bool)) (p : Out × St) : Prop := (∀ i, p.1 ≠ .exit i) ∧ finF F14 [.d (Choice.d c_), .i seg_, .i off_, .i from_, .i which_] p.2 = some (.tup [.d (.sl (mY r.1)), .d (.sl (List.map Fixup.d r.2.1)), .b r.2.2], [.d (Choice.d c_), .i seg_, .i off_, .i from_, .i which_])
theorem emit_Inst_j49_ok (c_ : Choice) (seg_ : Int) (off_ : Int) (from_ : Int) (which_ : Int) (c5 : Choice) (i13 : Inst) (r16 : Row) (out15 : (List Fixup)) (seg1 : Int) (d20 : Int) (v_15 : Nat) (r : ((List Int) × (List Fixup) × Bool)) (h : emit_Inst_j49 c5 i13 r16 out15 seg1 d20 = some r) : Runs L F14b49 (emit_Inst_h49 c5 i13 r16 out15 seg1 d20 v_15) (kB 0 (kS L F14c69 (emit_Inst_Q c_ seg_ off_ from_ which_ r))) := by
 unfold emit_Inst_j49 at h
 refine Sq <| Ro <| Rc 4 [vi d20, vw (IntKind.wrap .u16 d20), vp [13] 0 8, ⟨.tup [], [([13], some (.cells [.b i13.Lock, .i i13.Rep, .i i13.Seg, .y i13.Op, .i i13.Mod, .i i13.Reg, .i i13.RM, .w i13.Disp, .w (IntKind.wrap .u16 d20), .w i13.Sel] 0))]⟩] <| Rk <| Sq <| Ro <| Rc 5 [vp [5] 0 16, vp [5] 0 17, vi c5.Imm.From, vb (c5.Imm.From == 1), vb (c5.Imm.From == 1)] ?_
 cases hb_8 : ((c5.Imm.From == 1) : Bool) with
 | true =>
  replace h := ite_t hb_8 h
  refine Rc 7 [vp [5] 0 16, vp [5] 0 18, vi c5.Imm.Which, vi seg1, vb (c5.Imm.Which != seg1), vb (c5.Imm.Which != seg1), vb (c5.Imm.Which != seg1)] ?_
  cases hb_9 : ((c5.Imm.Which != seg1) : Bool) with
  | true =>
   replace h := ite_t hb_9 h
   refine Rc 12 [vn, vn, vn, vn, vn, vn, vn, vn, vn, vn, vn, vb true] <| Rk <| Ct <| Sq <| Ro <| Rc 3 [⟨.nils, []⟩, ⟨.nils, []⟩, vb false] <| Rk <| Sq <| Runs.gcons (frz_nil (D.int .u8) (by kernel_rfl)) <| Runs.gcons (frz_nil Fixup.d (by kernel_rfl)) <| Runs.gnil <| kS_nrm <| Runs.ret <| kB_ret <| kS_ret ?_
   cases h
   exact Fq
  | false =>
   replace h := ite_f hb_9 h
   refine Rc 1 [⟨.d (Row.d r16), []⟩] ?_
   obtain ⟨r_9, hr_9, h⟩ := bind_s h
   have hc_9 := inst_Imms_L r16 r_9 hr_9
   refine Rt (some 104) (.callf 27) [] none [.d (Row.d r16)] (.i r_9) [] (cc hc_9) <| Rc 2 [vb (r_9 == 1), vb (r_9 == 1)] ?_
   cases hb_10 : ((r_9 == 1) : Bool) with
   | true =>
    replace h := ite_t hb_10 h
    refine Rc 3 [vi d20, vb (decide (d20 < (-128))), vb (decide (d20 < (-128)))] ?_
    cases hb_11 : ((decide (d20 < (-128))) : Bool) with
    | true =>
     replace h := ite_t hb_11 h
     refine Rc 5 [vn, vn, vb true, vb true, vb true] <| Rk <| Ct <| Sq <| Ro <| Rc 3 [⟨.nils, []⟩, ⟨.nils, []⟩, vb false] <| Rk <| Sq <| Runs.gcons (frz_nil (D.int .u8) (by kernel_rfl)) <| Runs.gcons (frz_nil Fixup.d (by kernel_rfl)) <| Runs.gnil <| kS_nrm <| Runs.ret <| kB_ret <| kS_ret ?_
     cases h
     exact Fq
    | false =>
     replace h := ite_f hb_11 h
     refine Rc 5 [vi d20, vb (decide (d20 > 127)), vb (decide (d20 > 127)), vb (decide (d20 > 127)), vb (decide (d20 > 127))] <| Rk ?_
     cases hb_12 : ((decide (d20 > 127)) : Bool) with
     | true =>
      replace h := ite_t hb_12 h
      refine Ct <| Sq <| Ro <| Rc 3 [⟨.nils, []⟩, ⟨.nils, []⟩, vb false] <| Rk <| Sq <| Runs.gcons (frz_nil (D.int .u8) (by kernel_rfl)) <| Runs.gcons (frz_nil Fixup.d (by kernel_rfl)) <| Runs.gnil <| kS_nrm <| Runs.ret <| kB_ret <| kS_ret ?_
      cases h
      exact Fq
     | false =>
      replace h := ite_f hb_12 h
      refine Cf <| Runs.skip <| kB_nrm <| kS_nrm <| Sq <| Ro <| Rc 1 [⟨.d (.agg [.bool i13.Lock, .int .i64 i13.Rep, .int .i64 i13.Seg, .int .u8 i13.Op, .int .i64 i13.Mod, .int .i64 i13.Reg, .int .i64 i13.RM, .int .u16 i13.Disp, .int .u16 (IntKind.wrap .u16 d20), .int .u16 i13.Sel]), []⟩] ?_
      obtain ⟨r_10, hr_10, h⟩ := bind_s h
      have hc_10 := code_Put_L ({ i13 with Imm := (IntKind.wrap .u16 d20) } : Inst) r_10 hr_10
      refine Rt (some 151) (.callf 8) [] none [.d (.agg [.bool i13.Lock, .int .i64 i13.Rep, .int .i64 i13.Seg, .int .u8 i13.Op, .int .i64 i13.Mod, .int .i64 i13.Reg, .int .i64 i13.RM, .int .u16 i13.Disp, .int .u16 (IntKind.wrap .u16 d20), .int .u16 i13.Sel])] (.tup [.d (.sl (mY r_10.1)), .i r_10.2]) [] (cc hc_10) <| Rc 5 [⟨.tup [.d (.sl (mY r_10.1)), .i r_10.2], []⟩, ⟨.d (.sl (mY r_10.1)), []⟩, vi r_10.2, ⟨.d (.sl (mY r_10.1)), []⟩, vi r_10.2] <| Rk <| Sq <| Ro <| Rc 7 [⟨.d (.sl (mY r_10.1)), []⟩, ⟨.ref [15] v_15 0 (List.map Fixup.d out15).length 8, []⟩, vi r_10.2, vb (r_10.2 == 0), ⟨.d (.sl (mY r_10.1)), []⟩, ⟨.ref [15] v_15 0 (List.map Fixup.d out15).length 8, []⟩, vb (r_10.2 == 0)] <| Rk <| Sq <| Runs.gcons (frz_ref (e := Fixup.d) (l := out15) (id := [15]) (v := v_15) (n := 8) (fz := false) (by kernel_rfl) (by kernel_rfl) rfl) <| Runs.gnil <| kS_nrm <| Runs.ret ?_
      cases h
      exact Fq
   | false =>
    replace h := ite_f hb_10 h
    refine Rc 8 [vn, vn, vn, vn, vn, vn, vb false, vb false] <| Rk <| Cf <| Runs.skip <| kB_nrm <| kS_nrm <| Sq <| Ro <| Rc 1 [⟨.d (.agg [.bool i13.Lock, .int .i64 i13.Rep, .int .i64 i13.Seg, .int .u8 i13.Op, .int .i64 i13.Mod, .int .i64 i13.Reg, .int .i64 i13.RM, .int .u16 i13.Disp, .int .u16 (IntKind.wrap .u16 d20), .int .u16 i13.Sel]), []⟩] ?_
    obtain ⟨r_11, hr_11, h⟩ := bind_s h
    have hc_11 := code_Put_L ({ i13 with Imm := (IntKind.wrap .u16 d20) } : Inst) r_11 hr_11
    refine Rt (some 151) (.callf 8) [] none [.d (.agg [.bool i13.Lock, .int .i64 i13.Rep, .int .i64 i13.Seg, .int .u8 i13.Op, .int .i64 i13.Mod, .int .i64 i13.Reg, .int .i64 i13.RM, .int .u16 i13.Disp, .int .u16 (IntKind.wrap .u16 d20), .int .u16 i13.Sel])] (.tup [.d (.sl (mY r_11.1)), .i r_11.2]) [] (cc hc_11) <| Rc 5 [⟨.tup [.d (.sl (mY r_11.1)), .i r_11.2], []⟩, ⟨.d (.sl (mY r_11.1)), []⟩, vi r_11.2, ⟨.d (.sl (mY r_11.1)), []⟩, vi r_11.2] <| Rk <| Sq <| Ro <| Rc 7 [⟨.d (.sl (mY r_11.1)), []⟩, ⟨.ref [15] v_15 0 (List.map Fixup.d out15).length 8, []⟩, vi r_11.2, vb (r_11.2 == 0), ⟨.d (.sl (mY r_11.1)), []⟩, ⟨.ref [15] v_15 0 (List.map Fixup.d out15).length 8, []⟩, vb (r_11.2 == 0)] <| Rk <| Sq <| Runs.gcons (frz_ref (e := Fixup.d) (l := out15) (id := [15]) (v := v_15) (n := 8) (fz := false) (by kernel_rfl) (by kernel_rfl) rfl) <| Runs.gnil <| kS_nrm <| Runs.ret ?_
    cases h
    exact Fq
 | false =>
  replace h := ite_f hb_8 h
  refine Rc 8 [vn, vn, vn, vn, vn, vb false, vb false, ⟨.d (Row.d r16), []⟩] ?_
  obtain ⟨r_12, hr_12, h⟩ := bind_s h
  have hc_12 := inst_Imms_L r16 r_12 hr_12
  refine Rt (some 104) (.callf 27) [] none [.d (Row.d r16)] (.i r_12) [] (cc hc_12) <| Rc 2 [vb (r_12 == 1), vb (r_12 == 1)] ?_
  cases hb_13 : ((r_12 == 1) : Bool) with
  | true =>
   replace h := ite_t hb_13 h
   refine Rc 3 [vi d20, vb (decide (d20 < (-128))), vb (decide (d20 < (-128)))] ?_
   cases hb_14 : ((decide (d20 < (-128))) : Bool) with
   | true =>
    replace h := ite_t hb_14 h
    refine Rc 5 [vn, vn, vb true, vb true, vb true] <| Rk <| Ct <| Sq <| Ro <| Rc 3 [⟨.nils, []⟩, ⟨.nils, []⟩, vb false] <| Rk <| Sq <| Runs.gcons (frz_nil (D.int .u8) (by kernel_rfl)) <| Runs.gcons (frz_nil Fixup.d (by kernel_rfl)) <| Runs.gnil <| kS_nrm <| Runs.ret <| kB_ret <| kS_ret ?_
    cases h
    exact Fq
   | false =>
    replace h := ite_f hb_14 h
    refine Rc 5 [vi d20, vb (decide (d20 > 127)), vb (decide (d20 > 127)), vb (decide (d20 > 127)), vb (decide (d20 > 127))] <| Rk ?_
    cases hb_15 : ((decide (d20 > 127)) : Bool) with
    | true =>
     replace h := ite_t hb_15 h
     refine Ct <| Sq <| Ro <| Rc 3 [⟨.nils, []⟩, ⟨.nils, []⟩, vb false] <| Rk <| Sq <| Runs.gcons (frz_nil (D.int .u8) (by kernel_rfl)) <| Runs.gcons (frz_nil Fixup.d (by kernel_rfl)) <| Runs.gnil <| kS_nrm <| Runs.ret <| kB_ret <| kS_ret ?_
     cases h
     exact Fq
    | false =>
     replace h := ite_f hb_15 h
     refine Cf <| Runs.skip <| kB_nrm <| kS_nrm <| Sq <| Ro <| Rc 1 [⟨.d (.agg [.bool i13.Lock, .int .i64 i13.Rep, .int .i64 i13.Seg, .int .u8 i13.Op, .int .i64 i13.Mod, .int .i64 i13.Reg, .int .i64 i13.RM, .int .u16 i13.Disp, .int .u16 (IntKind.wrap .u16 d20), .int .u16 i13.Sel]), []⟩] ?_
     obtain ⟨r_13, hr_13, h⟩ := bind_s h
     have hc_13 := code_Put_L ({ i13 with Imm := (IntKind.wrap .u16 d20) } : Inst) r_13 hr_13
     refine Rt (some 151) (.callf 8) [] none [.d (.agg [.bool i13.Lock, .int .i64 i13.Rep, .int .i64 i13.Seg, .int .u8 i13.Op, .int .i64 i13.Mod, .int .i64 i13.Reg, .int .i64 i13.RM, .int .u16 i13.Disp, .int .u16 (IntKind.wrap .u16 d20), .int .u16 i13.Sel])] (.tup [.d (.sl (mY r_13.1)), .i r_13.2]) [] (cc hc_13) <| Rc 5 [⟨.tup [.d (.sl (mY r_13.1)), .i r_13.2], []⟩, ⟨.d (.sl (mY r_13.1)), []⟩, vi r_13.2, ⟨.d (.sl (mY r_13.1)), []⟩, vi r_13.2] <| Rk <| Sq <| Ro <| Rc 7 [⟨.d (.sl (mY r_13.1)), []⟩, ⟨.ref [15] v_15 0 (List.map Fixup.d out15).length 8, []⟩, vi r_13.2, vb (r_13.2 == 0), ⟨.d (.sl (mY r_13.1)), []⟩, ⟨.ref [15] v_15 0 (List.map Fixup.d out15).length 8, []⟩, vb (r_13.2 == 0)] <| Rk <| Sq <| Runs.gcons (frz_ref (e := Fixup.d) (l := out15) (id := [15]) (v := v_15) (n := 8) (fz := false) (by kernel_rfl) (by kernel_rfl) rfl) <| Runs.gnil <| kS_nrm <| Runs.ret ?_
     cases h
     exact Fq
  | false =>
   replace h := ite_f hb_13 h
   refine Rc 8 [vn, vn, vn, vn, vn, vn, vb false, vb false] <| Rk <| Cf <| Runs.skip <| kB_nrm <| kS_nrm <| Sq <| Ro <| Rc 1 [⟨.d (.agg [.bool i13.Lock, .int .i64 i13.Rep, .int .i64 i13.Seg, .int .u8 i13.Op, .int .i64 i13.Mod, .int .i64 i13.Reg, .int .i64 i13.RM, .int .u16 i13.Disp, .int .u16 (IntKind.wrap .u16 d20), .int .u16 i13.Sel]), []⟩] ?_
   obtain ⟨r_14, hr_14, h⟩ := bind_s h
   have hc_14 := code_Put_L ({ i13 with Imm := (IntKind.wrap .u16 d20) } : Inst) r_14 hr_14
   refine Rt (some 151) (.callf 8) [] none [.d (.agg [.bool i13.Lock, .int .i64 i13.Rep, .int .i64 i13.Seg, .int .u8 i13.Op, .int .i64 i13.Mod, .int .i64 i13.Reg, .int .i64 i13.RM, .int .u16 i13.Disp, .int .u16 (IntKind.wrap .u16 d20), .int .u16 i13.Sel])] (.tup [.d (.sl (mY r_14.1)), .i r_14.2]) [] (cc hc_14) <| Rc 5 [⟨.tup [.d (.sl (mY r_14.1)), .i r_14.2], []⟩, ⟨.d (.sl (mY r_14.1)), []⟩, vi r_14.2, ⟨.d (.sl (mY r_14.1)), []⟩, vi r_14.2] <| Rk <| Sq <| Ro <| Rc 7 [⟨.d (.sl (mY r_14.1)), []⟩, ⟨.ref [15] v_15 0 (List.map Fixup.d out15).length 8, []⟩, vi r_14.2, vb (r_14.2 == 0), ⟨.d (.sl (mY r_14.1)), []⟩, ⟨.ref [15] v_15 0 (List.map Fixup.d out15).length 8, []⟩, vb (r_14.2 == 0)] <| Rk <| Sq <| Runs.gcons (frz_ref (e := Fixup.d) (l := out15) (id := [15]) (v := v_15) (n := 8) (fz := false) (by kernel_rfl) (by kernel_rfl) rfl) <| Runs.gnil <| kS_nrm <| Runs.ret ?_
   cases h
   exact Fq
theorem emit_Inst_j60_ok (c_ : Choice) (seg_ : Int) (off_ : Int) (from_ : Int) (which_ : Int) (c5 : Choice) (i13 : Inst) (r16 : Row) (out15 : (List Fixup)) (from3 : Int) (which4 : Int) (tail18 : Int) (t115 : Bool) (v_15 : Nat) (r : ((List Int) × (List Fixup) × Bool)) (h : emit_Inst_j60 c5 i13 r16 out15 from3 which4 tail18 t115 = some r) : Runs L F14b60 (emit_Inst_h60 c5 i13 r16 out15 from3 which4 tail18 t115 v_15) (kB 0 (kS L F14c69 (emit_Inst_Q c_ seg_ off_ from_ which_ r))) := by
 unfold emit_Inst_j60 at h
 cases hb_17 : (t115 : Bool) with
 | true =>
  replace h := ite_t hb_17 h
  refine Ct <| Ro <| Rc 4 [⟨.ref [15] v_15 0 (List.map Fixup.d out15).length 8, []⟩, vi tail18, vp [5] 0 16, ⟨.d (api_Value.d c5.Imm), []⟩] ?_
  obtain ⟨r_15, hr_15, h⟩ := bind_s h
  have hc_15 := emit_Fix_L tail18 3 c5.Imm 0 0 r_15 hr_15
  refine Rt (some 127) (.callf 35) [] none [.i tail18, .i 3, .d (api_Value.d c5.Imm), .i 0, .i 0] (.d (Fixup.d r_15)) [] (cc hc_15) <| Rc 1 [⟨.ref [128] 0 0 (List.map Fixup.d ([r_15] : List Fixup)).length 8, [([128], some (.arr (List.map Fixup.d ([r_15] : List Fixup)) 0 false))]⟩] ?_
  obtain ⟨z_3, hz_3, h⟩ := bind_s h
  refine Rt (some 129) (.append 8 64 false) [] none [.ref [15] v_15 0 (List.map Fixup.d out15).length 8, .ref [128] 0 0 (List.map Fixup.d ([r_15] : List Fixup)).length 8] (.ref [15] (v_15 + 1) 0 (List.map Fixup.d z_3).length 8) [([128], some (.arr (List.map Fixup.d ([r_15] : List Fixup)) 0 true)), ([15], some (.arr (List.map Fixup.d z_3) (v_15 + 1) false))] (cut_appR (e := Fixup.d) (l := out15) (fz := false) (ws := [([128], some (.arr (List.map Fixup.d ([r_15] : List Fixup)) 0 true))]) (ap_ref (e := Fixup.d) (l := ([r_15] : List Fixup)) (fz := false) (by kernel_rfl) (by kernel_rfl) rfl) (fun _ => rfl) hz_3 (by kernel_rfl) (by kernel_rfl) rfl) <| Rc 1 [⟨.ref [15] (v_15 + 1) 0 (List.map Fixup.d z_3).length 8, []⟩] <| Rd <| kB_nrm <| kS_nrm <| Sq <| Ro <| Rc 1 [⟨.d (Inst.d i13), []⟩] ?_
  obtain ⟨r_16, hr_16, h⟩ := bind_s h
  have hc_16 := code_Put_L i13 r_16 hr_16
  refine Rt (some 151) (.callf 8) [] none [.d (Inst.d i13)] (.tup [.d (.sl (mY r_16.1)), .i r_16.2]) [] (cc hc_16) <| Rc 5 [⟨.tup [.d (.sl (mY r_16.1)), .i r_16.2], []⟩, ⟨.d (.sl (mY r_16.1)), []⟩, vi r_16.2, ⟨.d (.sl (mY r_16.1)), []⟩, vi r_16.2] <| Rk <| Sq <| Ro <| Rc 7 [⟨.d (.sl (mY r_16.1)), []⟩, ⟨.ref [15] (v_15 + 1) 0 (List.map Fixup.d z_3).length 8, []⟩, vi r_16.2, vb (r_16.2 == 0), ⟨.d (.sl (mY r_16.1)), []⟩, ⟨.ref [15] (v_15 + 1) 0 (List.map Fixup.d z_3).length 8, []⟩, vb (r_16.2 == 0)] <| Rk <| Sq <| Runs.gcons (frz_ref (e := Fixup.d) (l := z_3) (id := [15]) (v := (v_15 + 1)) (n := 8) (fz := false) (by kernel_rfl) (by kernel_rfl) rfl) <| Runs.gnil <| kS_nrm <| Runs.ret ?_
  cases h
  exact Fq
 | false =>
  replace h := ite_f hb_17 h
  refine Cf <| Sq <| Ro <| Rc 3 [vp [5] 0 23, vb c5.HasI, vb c5.HasI] ?_
  cases hb_18 : (c5.HasI : Bool) with
  | true =>
   replace h := ite_t hb_18 h
   refine Rc 2 [vp [5] 0 16, ⟨.d (api_Value.d c5.Imm), []⟩] ?_
   obtain ⟨r_17, hr_17, h⟩ := bind_s h
   have hc_17 := value_Plain_L c5.Imm r_17 hr_17
   refine Rt (some 136) (.callf 34) [] none [.d (api_Value.d c5.Imm)] (.b r_17) [] (cc hc_17) <| Rc 3 [vb (!r_17), vb (!r_17), vb (!r_17)] <| Rk ?_
   cases hb_19 : ((!r_17) : Bool) with
   | true =>
    replace h := ite_t hb_19 h
    refine Ct <| Sq <| Ro <| Rc 6 [⟨.ref [15] v_15 0 (List.map Fixup.d out15).length 8, []⟩, ⟨.d (Choice.d c5), []⟩, ⟨.d (Row.d r16), []⟩, vi tail18, vi from3, vi which4] ?_
    obtain ⟨r_18, hr_18, h⟩ := bind_s h
    have hc_18 := emit_imm_L c5 r16 tail18 from3 which4 r_18 hr_18
    refine Rt (some 145) (.callf 36) [] none [.d (Choice.d c5), .d (Row.d r16), .i tail18, .i from3, .i which4] (.d (Fixup.d r_18)) [] (cc hc_18) <| Rc 1 [⟨.ref [146] 0 0 (List.map Fixup.d ([r_18] : List Fixup)).length 8, [([146], some (.arr (List.map Fixup.d ([r_18] : List Fixup)) 0 false))]⟩] ?_
    obtain ⟨z_4, hz_4, h⟩ := bind_s h
    refine Rt (some 147) (.append 8 64 false) [] none [.ref [15] v_15 0 (List.map Fixup.d out15).length 8, .ref [146] 0 0 (List.map Fixup.d ([r_18] : List Fixup)).length 8] (.ref [15] (v_15 + 1) 0 (List.map Fixup.d z_4).length 8) [([146], some (.arr (List.map Fixup.d ([r_18] : List Fixup)) 0 true)), ([15], some (.arr (List.map Fixup.d z_4) (v_15 + 1) false))] (cut_appR (e := Fixup.d) (l := out15) (fz := false) (ws := [([146], some (.arr (List.map Fixup.d ([r_18] : List Fixup)) 0 true))]) (ap_ref (e := Fixup.d) (l := ([r_18] : List Fixup)) (fz := false) (by kernel_rfl) (by kernel_rfl) rfl) (fun _ => rfl) hz_4 (by kernel_rfl) (by kernel_rfl) rfl) <| Rc 1 [⟨.ref [15] (v_15 + 1) 0 (List.map Fixup.d z_4).length 8, []⟩] <| Rk <| Ro <| Rc 2 [vp [13] 0 8, ⟨.tup [], [([13], some (.cells [.b i13.Lock, .i i13.Rep, .i i13.Seg, .y i13.Op, .i i13.Mod, .i i13.Reg, .i i13.RM, .w i13.Disp, .w 0, .w i13.Sel] 0))]⟩] <| Rd <| kB_nrm <| kS_nrm <| Sq <| Ro <| Rc 1 [⟨.d (.agg [.bool i13.Lock, .int .i64 i13.Rep, .int .i64 i13.Seg, .int .u8 i13.Op, .int .i64 i13.Mod, .int .i64 i13.Reg, .int .i64 i13.RM, .int .u16 i13.Disp, .int .u16 0, .int .u16 i13.Sel]), []⟩] ?_
    obtain ⟨r_19, hr_19, h⟩ := bind_s h
    have hc_19 := code_Put_L ({ i13 with Imm := 0 } : Inst) r_19 hr_19
    refine Rt (some 151) (.callf 8) [] none [.d (.agg [.bool i13.Lock, .int .i64 i13.Rep, .int .i64 i13.Seg, .int .u8 i13.Op, .int .i64 i13.Mod, .int .i64 i13.Reg, .int .i64 i13.RM, .int .u16 i13.Disp, .int .u16 0, .int .u16 i13.Sel])] (.tup [.d (.sl (mY r_19.1)), .i r_19.2]) [] (cc hc_19) <| Rc 5 [⟨.tup [.d (.sl (mY r_19.1)), .i r_19.2], []⟩, ⟨.d (.sl (mY r_19.1)), []⟩, vi r_19.2, ⟨.d (.sl (mY r_19.1)), []⟩, vi r_19.2] <| Rk <| Sq <| Ro <| Rc 7 [⟨.d (.sl (mY r_19.1)), []⟩, ⟨.ref [15] (v_15 + 1) 0 (List.map Fixup.d z_4).length 8, []⟩, vi r_19.2, vb (r_19.2 == 0), ⟨.d (.sl (mY r_19.1)), []⟩, ⟨.ref [15] (v_15 + 1) 0 (List.map Fixup.d z_4).length 8, []⟩, vb (r_19.2 == 0)] <| Rk <| Sq <| Runs.gcons (frz_ref (e := Fixup.d) (l := z_4) (id := [15]) (v := (v_15 + 1)) (n := 8) (fz := false) (by kernel_rfl) (by kernel_rfl) rfl) <| Runs.gnil <| kS_nrm <| Runs.ret ?_
    cases h
    exact Fq
   | false =>
    replace h := ite_f hb_19 h
    refine Cf <| Runs.skip <| kB_nrm <| kS_nrm <| Sq <| Ro <| Rc 1 [⟨.d (Inst.d i13), []⟩] ?_
    obtain ⟨r_20, hr_20, h⟩ := bind_s h
    have hc_20 := code_Put_L i13 r_20 hr_20
    refine Rt (some 151) (.callf 8) [] none [.d (Inst.d i13)] (.tup [.d (.sl (mY r_20.1)), .i r_20.2]) [] (cc hc_20) <| Rc 5 [⟨.tup [.d (.sl (mY r_20.1)), .i r_20.2], []⟩, ⟨.d (.sl (mY r_20.1)), []⟩, vi r_20.2, ⟨.d (.sl (mY r_20.1)), []⟩, vi r_20.2] <| Rk <| Sq <| Ro <| Rc 7 [⟨.d (.sl (mY r_20.1)), []⟩, ⟨.ref [15] v_15 0 (List.map Fixup.d out15).length 8, []⟩, vi r_20.2, vb (r_20.2 == 0), ⟨.d (.sl (mY r_20.1)), []⟩, ⟨.ref [15] v_15 0 (List.map Fixup.d out15).length 8, []⟩, vb (r_20.2 == 0)] <| Rk <| Sq <| Runs.gcons (frz_ref (e := Fixup.d) (l := out15) (id := [15]) (v := v_15) (n := 8) (fz := false) (by kernel_rfl) (by kernel_rfl) rfl) <| Runs.gnil <| kS_nrm <| Runs.ret ?_
    cases h
    exact Fq
  | false =>
   replace h := ite_f hb_18 h
   refine Rc 6 [vn, vn, vn, vn, vb false, vb false] <| Rk <| Cf <| Runs.skip <| kB_nrm <| kS_nrm <| Sq <| Ro <| Rc 1 [⟨.d (Inst.d i13), []⟩] ?_
   obtain ⟨r_21, hr_21, h⟩ := bind_s h
   have hc_21 := code_Put_L i13 r_21 hr_21
   refine Rt (some 151) (.callf 8) [] none [.d (Inst.d i13)] (.tup [.d (.sl (mY r_21.1)), .i r_21.2]) [] (cc hc_21) <| Rc 5 [⟨.tup [.d (.sl (mY r_21.1)), .i r_21.2], []⟩, ⟨.d (.sl (mY r_21.1)), []⟩, vi r_21.2, ⟨.d (.sl (mY r_21.1)), []⟩, vi r_21.2] <| Rk <| Sq <| Ro <| Rc 7 [⟨.d (.sl (mY r_21.1)), []⟩, ⟨.ref [15] v_15 0 (List.map Fixup.d out15).length 8, []⟩, vi r_21.2, vb (r_21.2 == 0), ⟨.d (.sl (mY r_21.1)), []⟩, ⟨.ref [15] v_15 0 (List.map Fixup.d out15).length 8, []⟩, vb (r_21.2 == 0)] <| Rk <| Sq <| Runs.gcons (frz_ref (e := Fixup.d) (l := out15) (id := [15]) (v := v_15) (n := 8) (fz := false) (by kernel_rfl) (by kernel_rfl) rfl) <| Runs.gnil <| kS_nrm <| Runs.ret ?_
   cases h
   exact Fq
theorem emit_Inst_j24_ok (c_ : Choice) (seg_ : Int) (off_ : Int) (from_ : Int) (which_ : Int) (c5 : Choice) (i13 : Inst) (r16 : Row) (out15 : (List Fixup)) (seg1 : Int) (off2 : Int) (from3 : Int) (which4 : Int) (n14 : Int) (tail18 : Int) (t53 : Bool) (v_15 : Nat) (r : ((List Int) × (List Fixup) × Bool)) (h : emit_Inst_j24 c5 i13 r16 out15 seg1 off2 from3 which4 n14 tail18 t53 = some r) : Runs L F14b24 (emit_Inst_h24 c5 i13 r16 out15 seg1 off2 from3 which4 n14 tail18 t53 v_15) (kB 0 (kS L F14c69 (emit_Inst_Q c_ seg_ off_ from_ which_ r))) := by
 unfold emit_Inst_j24 at h
 cases hb_4 : (t53 : Bool) with
 | true =>
  replace h := ite_t hb_4 h
  refine Ct <| Sq <| Ro <| Rc 3 [vi tail18, vp [5] 0 16, ⟨.d (api_Value.d c5.Imm), []⟩] ?_
  obtain ⟨r_6, hr_6, h⟩ := bind_s h
  have hc_6 := emit_Fix_L tail18 1 c5.Imm 0 0 r_6 hr_6
  refine Rt (some 65) (.callf 35) [] none [.i tail18, .i 1, .d (api_Value.d c5.Imm), .i 0, .i 0] (.d (Fixup.d r_6)) [] (cc hc_6) <| Rc 2 [⟨.ptr [19] 0 0, [([19], some (.cells [.i 0, .i 0, .b false, .i 0, .i 0, .i 0, .i 0, .w 0] 0))]⟩, ⟨.tup [], [([19], some (.cells [.i r_6.At, .i r_6.Loc, .b r_6.Self, .i r_6.Frame, .i r_6.FrameN, .i r_6.Target, .i r_6.N, .w r_6.Disp] 0))]⟩] <| Rk <| Sq <| Ro <| Rc 2 [vp [19] 0 2, ⟨.tup [], [([19], some (.cells [.i r_6.At, .i r_6.Loc, .b true, .i r_6.Frame, .i r_6.FrameN, .i r_6.Target, .i r_6.N, .w r_6.Disp] 0))]⟩] <| Rk <| Sq <| Ro <| Rc 3 [⟨.ref [15] v_15 0 (List.map Fixup.d out15).length 8, []⟩, ⟨.d (.agg [.int .i64 r_6.At, .int .i64 r_6.Loc, .bool true, .int .i64 r_6.Frame, .int .i64 r_6.FrameN, .int .i64 r_6.Target, .int .i64 r_6.N, .int .u16 r_6.Disp]), []⟩, ⟨.ref [69] 0 0 (List.map Fixup.d ([({ r_6 with Self := true } : Fixup)] : List Fixup)).length 8, [([69], some (.arr (List.map Fixup.d ([({ r_6 with Self := true } : Fixup)] : List Fixup)) 0 false))]⟩] ?_
  obtain ⟨z_2, hz_2, h⟩ := bind_s h
  refine Rt (some 70) (.append 8 64 false) [] none [.ref [15] v_15 0 (List.map Fixup.d out15).length 8, .ref [69] 0 0 (List.map Fixup.d ([({ r_6 with Self := true } : Fixup)] : List Fixup)).length 8] (.ref [15] (v_15 + 1) 0 (List.map Fixup.d z_2).length 8) [([69], some (.arr (List.map Fixup.d ([({ r_6 with Self := true } : Fixup)] : List Fixup)) 0 true)), ([15], some (.arr (List.map Fixup.d z_2) (v_15 + 1) false))] (cut_appR (e := Fixup.d) (l := out15) (fz := false) (ws := [([69], some (.arr (List.map Fixup.d ([({ r_6 with Self := true } : Fixup)] : List Fixup)) 0 true))]) (ap_ref (e := Fixup.d) (l := ([({ r_6 with Self := true } : Fixup)] : List Fixup)) (fz := false) (by kernel_rfl) (by kernel_rfl) rfl) (fun _ => rfl) hz_2 (by kernel_rfl) (by kernel_rfl) rfl) <| Rc 1 [⟨.ref [15] (v_15 + 1) 0 (List.map Fixup.d z_2).length 8, []⟩] <| Rk <| Sq <| Ro <| Rc 1 [⟨.d (Row.d r16), []⟩] ?_
  obtain ⟨r_7, hr_7, h⟩ := bind_s h
  have hc_7 := inst_Imms_L r16 r_7 hr_7
  refine Rt (some 72) (.callf 27) [] none [.d (Row.d r16)] (.i r_7) [] (cc hc_7) <| Rc 1 [vb (r_7 != 2)] <| Rk ?_
  cases hb_5 : ((r_7 != 2) : Bool) with
  | true =>
   replace h := ite_t hb_5 h
   refine Ct <| Sq <| Ro <| Rc 3 [⟨.nils, []⟩, ⟨.nils, []⟩, vb false] <| Rk <| Sq <| Runs.gcons (frz_nil (D.int .u8) (by kernel_rfl)) <| Runs.gcons (frz_nil Fixup.d (by kernel_rfl)) <| Runs.gnil <| kS_nrm <| Runs.ret <| kB_ret <| kS_ret ?_
   cases h
   exact Fq
  | false =>
   replace h := ite_f hb_5 h
   refine Cf <| Runs.skip <| kB_nrm <| kS_nrm <| Sq <| Ro <| Rc 1 [⟨.d (Inst.d i13), []⟩] ?_
   obtain ⟨r_8, hr_8, h⟩ := bind_s h
   have hc_8 := code_Put_L i13 r_8 hr_8
   refine Rt (some 151) (.callf 8) [] none [.d (Inst.d i13)] (.tup [.d (.sl (mY r_8.1)), .i r_8.2]) [] (cc hc_8) <| Rc 5 [⟨.tup [.d (.sl (mY r_8.1)), .i r_8.2], []⟩, ⟨.d (.sl (mY r_8.1)), []⟩, vi r_8.2, ⟨.d (.sl (mY r_8.1)), []⟩, vi r_8.2] <| Rk <| Sq <| Ro <| Rc 7 [⟨.d (.sl (mY r_8.1)), []⟩, ⟨.ref [15] (v_15 + 1) 0 (List.map Fixup.d z_2).length 8, []⟩, vi r_8.2, vb (r_8.2 == 0), ⟨.d (.sl (mY r_8.1)), []⟩, ⟨.ref [15] (v_15 + 1) 0 (List.map Fixup.d z_2).length 8, []⟩, vb (r_8.2 == 0)] <| Rk <| Sq <| Runs.gcons (frz_ref (e := Fixup.d) (l := z_2) (id := [15]) (v := (v_15 + 1)) (n := 8) (fz := false) (by kernel_rfl) (by kernel_rfl) rfl) <| Runs.gnil <| kS_nrm <| Runs.ret ?_
   cases h
   exact Fq
 | false =>
  replace h := ite_f hb_4 h
  refine Cf <| Sq <| Ro <| Rc 3 [vp [5] 0 24, vb c5.Jumps, vb c5.Jumps] <| Rk ?_
  cases hb_6 : (c5.Jumps : Bool) with
  | true =>
   replace h := ite_t hb_6 h
   refine Ct <| Sq <| Ro <| Rc 8 [vp [5] 0 16, vp [5] 0 16, vi c5.Imm.N, vi off2, vi (IntKind.wrap .i64 (c5.Imm.N - off2)), vi n14, vi (IntKind.wrap .i64 ((IntKind.wrap .i64 (c5.Imm.N - off2)) - n14)), vi (IntKind.wrap .i64 ((IntKind.wrap .i64 (c5.Imm.N - off2)) - n14))] <| Rk <| Sq <| Sq <| Ro <| Rc 4 [vp [5] 0 16, vp [5] 0 21, vb c5.Imm.Known, vb (!c5.Imm.Known)] <| Rk ?_
   cases hb_7 : ((!c5.Imm.Known) : Bool) with
   | true =>
    replace h := ite_t hb_7 h
    refine Ct <| Ro <| Rc 1 [vi 0] <| Rk <| Runs.canon (emit_Inst_h49 c5 i13 r16 out15 seg1 0 v_15) Cz ?_
    exact emit_Inst_j49_ok c_ seg_ off_ from_ which_ c5 i13 r16 out15 seg1 0 v_15 r h
   | false =>
    replace h := ite_f hb_7 h
    refine Cf <| Runs.skip <| kS_nrm <| Runs.canon (emit_Inst_h49 c5 i13 r16 out15 seg1 (IntKind.wrap .i64 ((IntKind.wrap .i64 (c5.Imm.N - off2)) - n14)) v_15) Cz ?_
    exact emit_Inst_j49_ok c_ seg_ off_ from_ which_ c5 i13 r16 out15 seg1 (IntKind.wrap .i64 ((IntKind.wrap .i64 (c5.Imm.N - off2)) - n14)) v_15 r h
  | false =>
   replace h := ite_f hb_6 h
   refine Cf <| Sq <| Ro <| Rc 3 [vp [5] 0 23, vb c5.HasI, vb c5.HasI] ?_
   cases hb_16 : (c5.HasI : Bool) with
   | true =>
    replace h := ite_t hb_16 h
    refine Rc 5 [vp [16] 0 1, vi r16.A, vb (r16.A == 11), vb (r16.A == 11), vb (r16.A == 11)] <| Rk <| Runs.canon (emit_Inst_h60 c5 i13 r16 out15 from3 which4 tail18 (r16.A == 11) v_15) Cz ?_
    exact emit_Inst_j60_ok c_ seg_ off_ from_ which_ c5 i13 r16 out15 from3 which4 tail18 (r16.A == 11) v_15 r h
   | false =>
    replace h := ite_f hb_16 h
    refine Rc 5 [vn, vn, vn, vb false, vb false] <| Rk <| Runs.canon (emit_Inst_h60 c5 i13 r16 out15 from3 which4 tail18 false v_15) Cz ?_
    exact emit_Inst_j60_ok c_ seg_ off_ from_ which_ c5 i13 r16 out15 from3 which4 tail18 false v_15 r h
theorem emit_Inst_j20_ok (c_ : Choice) (seg_ : Int) (off_ : Int) (from_ : Int) (which_ : Int) (c5 : Choice) (i13 : Inst) (r16 : Row) (out15 : (List Fixup)) (seg1 : Int) (off2 : Int) (from3 : Int) (which4 : Int) (n14 : Int) (tail18 : Int) (v_15 : Nat) (r : ((List Int) × (List Fixup) × Bool)) (h : emit_Inst_j20 c5 i13 r16 out15 seg1 off2 from3 which4 n14 tail18 = some r) : Runs L F14b20 (emit_Inst_h20 c5 i13 r16 out15 seg1 off2 from3 which4 n14 tail18 v_15) (emit_Inst_Q c_ seg_ off_ from_ which_ r) := by
 unfold emit_Inst_j20 at h
 refine Sq <| Runs.block <| Sq <| Ro <| Rc 3 [vp [5] 0 24, vb c5.Jumps, vb c5.Jumps] ?_
 cases hb_3 : (c5.Jumps : Bool) with
 | true =>
  replace h := ite_t hb_3 h
  refine Rc 6 [vp [5] 0 16, vp [5] 0 17, vi c5.Imm.From, vb (c5.Imm.From == 3), vb (c5.Imm.From == 3), vb (c5.Imm.From == 3)] <| Rk <| Runs.canon (emit_Inst_h24 c5 i13 r16 out15 seg1 off2 from3 which4 n14 tail18 (c5.Imm.From == 3) v_15) Cz ?_
  exact emit_Inst_j24_ok c_ seg_ off_ from_ which_ c5 i13 r16 out15 seg1 off2 from3 which4 n14 tail18 (c5.Imm.From == 3) v_15 r h
 | false =>
  replace h := ite_f hb_3 h
  refine Rc 6 [vn, vn, vn, vn, vb false, vb false] <| Rk <| Runs.canon (emit_Inst_h24 c5 i13 r16 out15 seg1 off2 from3 which4 n14 tail18 false v_15) Cz ?_
  exact emit_Inst_j24_ok c_ seg_ off_ from_ which_ c5 i13 r16 out15 seg1 off2 from3 which4 n14 tail18 false v_15 r h
theorem emit_Inst_ok (c_ : Choice) (seg_ : Int) (off_ : Int) (from_ : Int) (which_ : Int) (r : ((List Int) × (List Fixup) × Bool)) (h : emit_Inst c_ seg_ off_ from_ which_ = some r) : Runs L F14.body ⟨tmOf [.d (Choice.d c_), .i seg_, .i off_, .i from_, .i which_] 0, updW (fun _ => none) []⟩ (emit_Inst_Q c_ seg_ off_ from_ which_ r) := by
 unfold emit_Inst at h
 refine Sq <| Ro <| Rc 4 [⟨.ptr [5] 0 0, [([5], some (.cells [.b c_.I.Lock, .i c_.I.Rep, .i c_.I.Seg, .y c_.I.Op, .i c_.I.Mod, .i c_.I.Reg, .i c_.I.RM, .w c_.I.Disp, .w c_.I.Imm, .w c_.I.Sel, .i c_.Disp.N, .i c_.Disp.From, .i c_.Disp.Which, .i c_.Disp.Type_, .i c_.Disp.Wants, .b c_.Disp.Known, .i c_.Imm.N, .i c_.Imm.From, .i c_.Imm.Which, .i c_.Imm.Type_, .i c_.Imm.Wants, .b c_.Imm.Known, .b c_.HasD, .b c_.HasI, .b c_.Jumps] 0))]⟩, ⟨.nils, []⟩, ⟨.nils, []⟩, vb false] <| Rk <| Sq <| Ro <| Rc 4 [vp [5] 0 0, ⟨.d (Inst.d c_.I), []⟩, ⟨.ptr [13] 0 0, [([13], some (.cells [.b false, .i 0, .i 0, .y 0, .i 0, .i 0, .i 0, .w 0, .w 0, .w 0] 0))]⟩, ⟨.tup [], [([13], some (.cells [.b c_.I.Lock, .i c_.I.Rep, .i c_.I.Seg, .y c_.I.Op, .i c_.I.Mod, .i c_.I.Reg, .i c_.I.RM, .w c_.I.Disp, .w c_.I.Imm, .w c_.I.Sel] 0))]⟩] <| Rk <| Sq <| Ro <| Rc 1 [⟨.d (Inst.d c_.I), []⟩] ?_
 obtain ⟨r_1, hr_1, h⟩ := bind_s h
 have hc_1 := inst_Len_L c_.I r_1 hr_1
 refine Rt (some 26) (.callf 32) [] none [.d (Inst.d c_.I)] (.i r_1) [] (cc hc_1) <| Rc 1 [vi r_1] <| Rk <| Sq <| Ro <| Rc 1 [⟨.nils, []⟩] <| Rk <| Runs.canon (emit_Inst_h8 c_ c_.I ([] : List Fixup) seg_ off_ from_ which_ r_1 0) (Canon.cons (own_nil Fixup.d (v := 0) (by kernel_rfl) (by kernel_rfl)) Cz) <| Sq <| Ro <| Rc 1 [⟨.d (Inst.d c_.I), []⟩] ?_
 obtain ⟨r_2, hr_2, h⟩ := bind_s h
 have hc_2 := inst_Row_L c_.I r_2 hr_2
 refine Rt (some 29) (.callf 22) [] none [.d (Inst.d c_.I)] (.tup [.d (Row.d r_2.1), .b r_2.2]) [] (cc hc_2) <| Rc 6 [⟨.tup [.d (Row.d r_2.1), .b r_2.2], []⟩, ⟨.d (Row.d r_2.1), []⟩, vb r_2.2, ⟨.ptr [16] 0 0, [([16], some (.cells [.i 0, .i 0, .i 0, .b false] 0))]⟩, ⟨.tup [], [([16], some (.cells [.i r_2.1.Name, .i r_2.1.A, .i r_2.1.B, .b r_2.1.Mod] 0))]⟩, vb r_2.2] <| Rk <| Sq <| Ro <| Rc 1 [⟨.d (Inst.d c_.I), []⟩] ?_
 obtain ⟨r_3, hr_3, h⟩ := bind_s h
 have hc_3 := inst_Tail_L c_.I r_3 hr_3
 refine Rt (some 33) (.callf 33) [] none [.d (Inst.d c_.I)] (.i r_3) [] (cc hc_3) <| Rc 1 [vi r_3] <| Rk <| Sq <| Sq <| Ro <| Rc 3 [vp [5] 0 22, vb c_.HasD, vb c_.HasD] ?_
 cases hb_1 : (c_.HasD : Bool) with
 | true =>
  replace h := ite_t hb_1 h
  refine Rc 2 [vp [5] 0 10, ⟨.d (api_Value.d c_.Disp), []⟩] ?_
  obtain ⟨r_4, hr_4, h⟩ := bind_s h
  have hc_4 := value_Plain_L c_.Disp r_4 hr_4
  refine Rt (some 39) (.callf 34) [] none [.d (api_Value.d c_.Disp)] (.b r_4) [] (cc hc_4) <| Rc 2 [vb (!r_4), vb (!r_4)] <| Rk ?_
  cases hb_2 : ((!r_4) : Bool) with
  | true =>
   replace h := ite_t hb_2 h
   refine Ct <| Sq <| Ro <| Rc 7 [⟨.ref [15] 0 0 (List.map Fixup.d ([] : List Fixup)).length 8, []⟩, vi r_3, vi (IntKind.wrap .i64 (r_3 - 2)), vp [5] 0 10, ⟨.d (api_Value.d c_.Disp), []⟩, vi from_, vi which_] ?_
   obtain ⟨r_5, hr_5, h⟩ := bind_s h
   have hc_5 := emit_Fix_L (IntKind.wrap .i64 (r_3 - 2)) 1 c_.Disp from_ which_ r_5 hr_5
   refine Rt (some 49) (.callf 35) [] none [.i (IntKind.wrap .i64 (r_3 - 2)), .i 1, .d (api_Value.d c_.Disp), .i from_, .i which_] (.d (Fixup.d r_5)) [] (cc hc_5) <| Rc 1 [⟨.ref [50] 0 0 (List.map Fixup.d ([r_5] : List Fixup)).length 8, [([50], some (.arr (List.map Fixup.d ([r_5] : List Fixup)) 0 false))]⟩] ?_
   obtain ⟨z_1, hz_1, h⟩ := bind_s h
   refine Rt (some 51) (.append 8 64 false) [] none [.ref [15] 0 0 (List.map Fixup.d ([] : List Fixup)).length 8, .ref [50] 0 0 (List.map Fixup.d ([r_5] : List Fixup)).length 8] (.ref [15] 1 0 (List.map Fixup.d z_1).length 8) [([50], some (.arr (List.map Fixup.d ([r_5] : List Fixup)) 0 true)), ([15], some (.arr (List.map Fixup.d z_1) 1 false))] (cut_appR (e := Fixup.d) (l := ([] : List Fixup)) (fz := false) (ws := [([50], some (.arr (List.map Fixup.d ([r_5] : List Fixup)) 0 true))]) (ap_ref (e := Fixup.d) (l := ([r_5] : List Fixup)) (fz := false) (by kernel_rfl) (by kernel_rfl) rfl) (fun _ => rfl) hz_1 (by kernel_rfl) (by kernel_rfl) rfl) <| Rc 1 [⟨.ref [15] 1 0 (List.map Fixup.d z_1).length 8, []⟩] <| Rk <| Ro <| Rc 2 [vp [13] 0 7, ⟨.tup [], [([13], some (.cells [.b c_.I.Lock, .i c_.I.Rep, .i c_.I.Seg, .y c_.I.Op, .i c_.I.Mod, .i c_.I.Reg, .i c_.I.RM, .w 0, .w c_.I.Imm, .w c_.I.Sel] 0))]⟩] <| Rk <| Runs.canon (emit_Inst_h20 c_ ({ c_.I with Disp := 0 } : Inst) r_2.1 z_1 seg_ off_ from_ which_ r_1 r_3 1) Cz ?_
   exact emit_Inst_j20_ok c_ seg_ off_ from_ which_ c_ ({ c_.I with Disp := 0 } : Inst) r_2.1 z_1 seg_ off_ from_ which_ r_1 r_3 1 r h
  | false =>
   replace h := ite_f hb_2 h
   refine Cf <| Runs.skip <| kS_nrm <| Runs.canon (emit_Inst_h20 c_ c_.I r_2.1 ([] : List Fixup) seg_ off_ from_ which_ r_1 r_3 0) Cz ?_
   exact emit_Inst_j20_ok c_ seg_ off_ from_ which_ c_ c_.I r_2.1 ([] : List Fixup) seg_ off_ from_ which_ r_1 r_3 0 r h
 | false =>
  replace h := ite_f hb_1 h
  refine Rc 5 [vn, vn, vn, vn, vb false] <| Rk <| Cf <| Runs.skip <| kS_nrm <| Runs.canon (emit_Inst_h20 c_ c_.I r_2.1 ([] : List Fixup) seg_ off_ from_ which_ r_1 r_3 0) Cz ?_
  exact emit_Inst_j20_ok c_ seg_ off_ from_ which_ c_ c_.I r_2.1 ([] : List Fixup) seg_ off_ from_ which_ r_1 r_3 0 r h
theorem emit_Inst_L (c_ : Choice) (seg_ : Int) (off_ : Int) (from_ : Int) (which_ : Int) (r : ((List Int) × (List Fixup) × Bool)) (h : emit_Inst c_ seg_ off_ from_ which_ = some r) : L 14 [.d (Choice.d c_), .i seg_, .i off_, .i from_, .i which_] = some (.tup [.d (.sl (mY r.1)), .d (.sl (List.map Fixup.d r.2.1)), .b r.2.2], [.d (Choice.d c_), .i seg_, .i off_, .i from_, .i which_]) := by
 obtain ⟨p, ⟨hne, hf⟩, hr⟩ := emit_Inst_ok c_ seg_ off_ from_ which_ r h
 obtain ⟨k, hk⟩ := run_of (F := F14) (args := [.d (Choice.d c_), .i seg_, .i off_, .i from_, .i which_]) (ap := [.d (Choice.d c_), .i seg_, .i off_, .i from_, .i which_]) (bx0 := updW (fun _ => none) []) rfl rfl (by kernel_rfl) ⟨p, ⟨hne, hf⟩, hr⟩
 exact lim_run (k := k) rfl hk
def emit_Word_Q (v_ : api_Value) (r : ((List Int) × (List Fixup))) (p : Out × St) : Prop := (∀ i, p.1 ≠ .exit i) ∧ finF F37 [.d (api_Value.d v_)] p.2 = some (.tup [.d (.sl (mY r.1)), .d (.sl (List.map Fixup.d r.2))], [.d (api_Value.d v_)])
theorem emit_Word_ok (v_ : api_Value) (r : ((List Int) × (List Fixup))) (h : emit_Word v_ = some r) : Runs L F37.body ⟨tmOf [.d (api_Value.d v_)] 0, updW (fun _ => none) []⟩ (emit_Word_Q v_ r) := by
 unfold emit_Word at h
 refine Sq <| Ro <| Rc 3 [⟨.ptr [1] 0 0, [([1], some (.cells [.i v_.N, .i v_.From, .i v_.Which, .i v_.Type_, .i v_.Wants, .b v_.Known] 0))]⟩, ⟨.nils, []⟩, ⟨.nils, []⟩] <| Rk <| Sq <| Sq <| Ro <| Rc 1 [⟨.d (api_Value.d v_), []⟩] ?_
 obtain ⟨r_1, hr_1, h⟩ := bind_s h
 have hc_1 := value_Plain_L v_ r_1 hr_1
 refine Rt (some 6) (.callf 34) [] none [.d (api_Value.d v_)] (.b r_1) [] (cc hc_1) <| Rk ?_
 cases hb_1 : (r_1 : Bool) with
 | true =>
  replace h := ite_t hb_1 h
  refine Ct <| Sq <| Ro <| Rc 3 [vp [1] 0 0, vi v_.N, vw (IntKind.wrap .u16 v_.N)] ?_
  obtain ⟨r_2, hr_2, h⟩ := bind_s h
  have hc_2 := bits_Low_L (IntKind.wrap .u16 v_.N) r_2 hr_2
  refine Rt (some 10) (.callf 25) [] (some []) [.w (IntKind.wrap .u16 v_.N)] (.y r_2) [] (cc hc_2) <| Rc 3 [vp [1] 0 0, vi v_.N, vw (IntKind.wrap .u16 v_.N)] ?_
  obtain ⟨r_3, hr_3, h⟩ := bind_s h
  have hc_3 := bits_High_L (IntKind.wrap .u16 v_.N) r_3 hr_3
  refine Rt (some 14) (.callf 26) [] none [.w (IntKind.wrap .u16 v_.N)] (.y r_3) [] (cc hc_3) <| Rc 3 [⟨.ref [15] 0 0 (mY ([r_2, r_3] : List Int)).length 1, [([15], some (.arr (mY ([r_2, r_3] : List Int)) 0 false))]⟩, ⟨.ref [15] 0 0 (mY ([r_2, r_3] : List Int)).length 1, []⟩, ⟨.nils, []⟩] <| Rk <| Sq <| Runs.gcons (frz_ref (e := (D.int .u8)) (l := ([r_2, r_3] : List Int)) (id := [15]) (v := 0) (n := 1) (fz := false) (by kernel_rfl) (by kernel_rfl) rfl) <| Runs.gcons (frz_nil Fixup.d (by kernel_rfl)) <| Runs.gnil <| kS_nrm <| Runs.ret <| kS_ret ?_
  cases h
  exact Fq
 | false =>
  replace h := ite_f hb_1 h
  refine Cf <| Runs.skip <| kS_nrm <| Sq <| Ro <| Rc 1 [vi 1] <| Rk <| Sq <| Sq <| Ro <| Rc 3 [vp [1] 0 4, vi v_.Wants, vb (v_.Wants == 2)] <| Rk ?_
  cases hb_2 : ((v_.Wants == 2) : Bool) with
  | true =>
   replace h := ite_t hb_2 h
   refine Ct <| Ro <| Rc 1 [vi 2] <| Rk <| Sq <| Ro ?_
   obtain ⟨z_1, hz_1, h⟩ := bind_s h
   refine Rt (some 19) (.mkslice (.int .u8 0) 1) [[22], [23]] none [.i 2, .i 2] (.ref [19] 0 0 (mY z_1).length 1) [([19], some (.arr (mY z_1) 0 false))] (cut_mk (e := (D.int .u8)) (z := 0) hz_1 rfl (by kernel_rfl)) <| Rc 2 [vi 2, ⟨.d (api_Value.d v_), []⟩] ?_
   obtain ⟨r_4, hr_4, h⟩ := bind_s h
   have hc_4 := emit_Fix_L 0 2 v_ 0 0 r_4 hr_4
   refine Rt (some 22) (.callf 35) [[19]] (some []) [.i 0, .i 2, .d (api_Value.d v_), .i 0, .i 0] (.d (Fixup.d r_4)) [] (cc hc_4) <| Rc 3 [⟨.ref [23] 0 0 (List.map Fixup.d ([r_4] : List Fixup)).length 8, [([23], some (.arr (List.map Fixup.d ([r_4] : List Fixup)) 0 false))]⟩, ⟨.ref [19] 0 0 (mY z_1).length 1, []⟩, ⟨.ref [23] 0 0 (List.map Fixup.d ([r_4] : List Fixup)).length 8, []⟩] <| Rk <| Sq <| Runs.gcons (frz_ref (e := (D.int .u8)) (l := z_1) (id := [19]) (v := 0) (n := 1) (fz := false) (by kernel_rfl) (by kernel_rfl) rfl) <| Runs.gcons (frz_ref (e := Fixup.d) (l := ([r_4] : List Fixup)) (id := [23]) (v := 0) (n := 8) (fz := false) (by kernel_rfl) (by kernel_rfl) rfl) <| Runs.gnil <| kS_nrm <| Runs.ret ?_
   cases h
   exact Fq
  | false =>
   replace h := ite_f hb_2 h
   refine Cf <| Runs.skip <| kS_nrm <| Sq <| Ro ?_
   obtain ⟨z_2, hz_2, h⟩ := bind_s h
   refine Rt (some 19) (.mkslice (.int .u8 0) 1) [[22], [23]] none [.i 2, .i 2] (.ref [19] 0 0 (mY z_2).length 1) [([19], some (.arr (mY z_2) 0 false))] (cut_mk (e := (D.int .u8)) (z := 0) hz_2 rfl (by kernel_rfl)) <| Rc 2 [vi 1, ⟨.d (api_Value.d v_), []⟩] ?_
   obtain ⟨r_5, hr_5, h⟩ := bind_s h
   have hc_5 := emit_Fix_L 0 1 v_ 0 0 r_5 hr_5
   refine Rt (some 22) (.callf 35) [[19]] (some []) [.i 0, .i 1, .d (api_Value.d v_), .i 0, .i 0] (.d (Fixup.d r_5)) [] (cc hc_5) <| Rc 3 [⟨.ref [23] 0 0 (List.map Fixup.d ([r_5] : List Fixup)).length 8, [([23], some (.arr (List.map Fixup.d ([r_5] : List Fixup)) 0 false))]⟩, ⟨.ref [19] 0 0 (mY z_2).length 1, []⟩, ⟨.ref [23] 0 0 (List.map Fixup.d ([r_5] : List Fixup)).length 8, []⟩] <| Rk <| Sq <| Runs.gcons (frz_ref (e := (D.int .u8)) (l := z_2) (id := [19]) (v := 0) (n := 1) (fz := false) (by kernel_rfl) (by kernel_rfl) rfl) <| Runs.gcons (frz_ref (e := Fixup.d) (l := ([r_5] : List Fixup)) (id := [23]) (v := 0) (n := 8) (fz := false) (by kernel_rfl) (by kernel_rfl) rfl) <| Runs.gnil <| kS_nrm <| Runs.ret ?_
   cases h
   exact Fq
theorem emit_Word_L (v_ : api_Value) (r : ((List Int) × (List Fixup))) (h : emit_Word v_ = some r) : L 37 [.d (api_Value.d v_)] = some (.tup [.d (.sl (mY r.1)), .d (.sl (List.map Fixup.d r.2))], [.d (api_Value.d v_)]) := by
 obtain ⟨p, ⟨hne, hf⟩, hr⟩ := emit_Word_ok v_ r h
 obtain ⟨k, hk⟩ := run_of (F := F37) (args := [.d (api_Value.d v_)]) (ap := [.d (api_Value.d v_)]) (bx0 := updW (fun _ => none) []) rfl rfl (by kernel_rfl) ⟨p, ⟨hne, hf⟩, hr⟩
 exact lim_run (k := k) rfl hk
def hansomlaw37_awake_Q  (r : Bool) (p : Out × St) : Prop := (∀ i, p.1 ≠ .exit i) ∧ finF F16 [] p.2 = some (.b r, [])
theorem hansomlaw37_awake_ok  (r : Bool) (h : hansomlaw37_awake = some r) : Runs L F16.body ⟨tmOf [] 0, updW (fun _ => none) []⟩ (hansomlaw37_awake_Q  r) := by
 unfold hansomlaw37_awake at h
 refine Sq <| Ro <| Rc 1 [vb false] <| Rk <| Sq <| Ro <| Rc 1 [⟨.d (.agg [.int .i64 4660, .int .i64 0, .int .i64 0, .int .i64 0, .int .i64 0, .bool true]), []⟩] ?_
 obtain ⟨r_1, hr_1, h⟩ := bind_s h
 have hc_1 := emit_Word_L ({ N := 4660, From := 0, Which := 0, Type_ := 0, Wants := 0, Known := true } : api_Value) r_1 hr_1
 refine Rt (some 7) (.callf 37) [] none [.d (.agg [.int .i64 4660, .int .i64 0, .int .i64 0, .int .i64 0, .int .i64 0, .bool true])] (.tup [.d (.sl (mY r_1.1)), .d (.sl (List.map Fixup.d r_1.2))]) [] (cc hc_1) <| Rc 5 [⟨.tup [.d (.sl (mY r_1.1)), .d (.sl (List.map Fixup.d r_1.2))], []⟩, ⟨.d (.sl (mY r_1.1)), []⟩, ⟨.d (.sl (List.map Fixup.d r_1.2)), []⟩, ⟨.d (.sl (mY r_1.1)), []⟩, ⟨.d (.sl (List.map Fixup.d r_1.2)), []⟩] <| Rk <| Sq <| Ro <| Rc 1 [⟨.d (.agg [.int .i64 0, .int .i64 3, .int .i64 2, .int .i64 0, .int .i64 1, .bool false]), []⟩] ?_
 obtain ⟨r_2, hr_2, h⟩ := bind_s h
 have hc_2 := emit_Word_L ({ N := 0, From := 3, Which := 2, Type_ := 0, Wants := 1, Known := false } : api_Value) r_2 hr_2
 refine Rt (some 12) (.callf 37) [] none [.d (.agg [.int .i64 0, .int .i64 3, .int .i64 2, .int .i64 0, .int .i64 1, .bool false])] (.tup [.d (.sl (mY r_2.1)), .d (.sl (List.map Fixup.d r_2.2))]) [] (cc hc_2) <| Rc 5 [⟨.tup [.d (.sl (mY r_2.1)), .d (.sl (List.map Fixup.d r_2.2))], []⟩, ⟨.d (.sl (mY r_2.1)), []⟩, ⟨.d (.sl (List.map Fixup.d r_2.2)), []⟩, ⟨.d (.sl (mY r_2.1)), []⟩, ⟨.d (.sl (List.map Fixup.d r_2.2)), []⟩] <| Rk <| Sq <| Ro <| Rc 1 [⟨.d (.sl (mY r_1.1)), []⟩] <| Rt (some 16) .bytesStr [] none [.d (.sl (mY r_1.1))] (.d (.str (b2s r_1.1))) [] (cut_bs _) <| Rc 2 [vb ((b2s r_1.1) == ([52, 18] : List UInt8)), vb ((b2s r_1.1) == ([52, 18] : List UInt8))] ?_
 cases hb_1 : (((b2s r_1.1) == ([52, 18] : List UInt8)) : Bool) with
 | true =>
  replace h := ite_t hb_1 h
  refine Rc 1 [⟨.d (.sl (List.map Fixup.d r_1.2)), []⟩] <| Rt (some 20) .lenL [] none [.d (.sl (List.map Fixup.d r_1.2))] (.i (r_1.2.length : Int)) [] (cut_len _) <| Rc 3 [vb ((r_1.2.length : Int) == 0), vb ((r_1.2.length : Int) == 0), vb ((r_1.2.length : Int) == 0)] ?_
  cases hb_2 : (((r_1.2.length : Int) == 0) : Bool) with
  | true =>
   replace h := ite_t hb_2 h
   refine Rc 1 [⟨.d (.sl (List.map Fixup.d r_2.2)), []⟩] <| Rt (some 25) .lenL [] none [.d (.sl (List.map Fixup.d r_2.2))] (.i (r_2.2.length : Int)) [] (cut_len _) <| Rc 3 [vb ((r_2.2.length : Int) == 1), vb ((r_2.2.length : Int) == 1), vb ((r_2.2.length : Int) == 1)] ?_
   cases hb_3 : (((r_2.2.length : Int) == 1) : Bool) with
   | true =>
    replace h := ite_t hb_3 h
    refine Rc 1 [⟨.d (.sl (List.map Fixup.d r_2.2)), []⟩] ?_
    obtain ⟨z_1, hz_1, h⟩ := bind_s h
    refine Rt (some 30) (.iaddrS 8) [] none [.d (.sl (List.map Fixup.d r_2.2)), .i 0] (.elt (Fixup.d z_1) 0) [] (cut_at hz_1 (fun _ => rfl)) <| Rc 5 [⟨.elt (Fixup.d z_1) 5, []⟩, vi z_1.Target, vb (z_1.Target == 2), vb (z_1.Target == 2), vb (z_1.Target == 2)] ?_
    cases hb_4 : ((z_1.Target == 2) : Bool) with
    | true =>
     replace h := ite_t hb_4 h
     refine Rc 1 [⟨.d (.sl (List.map Fixup.d r_2.2)), []⟩] ?_
     obtain ⟨z_2, hz_2, h⟩ := bind_s h
     refine Rt (some 37) (.iaddrS 8) [] none [.d (.sl (List.map Fixup.d r_2.2)), .i 0] (.elt (Fixup.d z_2) 0) [] (cut_at hz_2 (fun _ => rfl)) <| Rc 5 [⟨.elt (Fixup.d z_2) 3, []⟩, vi z_2.Frame, vb (z_2.Frame == 5), vb (z_2.Frame == 5), vb (z_2.Frame == 5)] <| Rk <| Runs.ret ?_
     cases h
     exact Fq
    | false =>
     replace h := ite_f hb_4 h
     refine Rc 7 [vn, vn, vn, vn, vn, vb false, vb false] <| Rk <| Runs.ret ?_
     cases h
     exact Fq
   | false =>
    replace h := ite_f hb_3 h
    refine Rc 14 [vn, vn, vn, vn, vn, vb false, vb false, vn, vn, vn, vn, vn, vb false, vb false] <| Rk <| Runs.ret ?_
    cases h
    exact Fq
  | false =>
   replace h := ite_f hb_2 h
   refine Rc 19 [vn, vn, vn, vb false, vb false, vn, vn, vn, vn, vn, vb false, vb false, vn, vn, vn, vn, vn, vb false, vb false] <| Rk <| Runs.ret ?_
   cases h
   exact Fq
 | false =>
  replace h := ite_f hb_1 h
  refine Rc 24 [vn, vn, vn, vb false, vb false, vn, vn, vn, vb false, vb false, vn, vn, vn, vn, vn, vb false, vb false, vn, vn, vn, vn, vn, vb false, vb false] <| Rk <| Runs.ret ?_
  cases h
  exact Fq
theorem hansomlaw37_awake_L  (r : Bool) (h : hansomlaw37_awake = some r) : L 16 [] = some (.b r, []) := by
 obtain ⟨p, ⟨hne, hf⟩, hr⟩ := hansomlaw37_awake_ok  r h
 obtain ⟨k, hk⟩ := run_of (F := F16) (args := []) (ap := []) (bx0 := updW (fun _ => none) []) rfl rfl (by kernel_rfl) ⟨p, ⟨hne, hf⟩, hr⟩
 exact lim_run (k := k) rfl hk
def hansomlaw37_EmitInst_h32 (i7 : Inst) (r8 : Row) (d11 : api_Value) (c12 : Choice) (n2 : Int) (b10 : (List Int)) (imms16 : Int) (tail17 : Int) (off18 : Int) (t86 : Bool) : St := ⟨tab [(2, .i n2), (7, .ptr [7] 0 0), (8, .ptr [8] 0 0), (10, .d (.sl (mY b10))), (11, .ptr [11] 0 0), (12, .ptr [12] 0 0), (16, .i imms16), (17, .i tail17), (18, .i off18), (86, .b t86)], tabB [([7], some (.cells [.b i7.Lock, .i i7.Rep, .i i7.Seg, .y i7.Op, .i i7.Mod, .i i7.Reg, .i i7.RM, .w i7.Disp, .w i7.Imm, .w i7.Sel] 0)), ([8], some (.cells [.i r8.Name, .i r8.A, .i r8.B, .b r8.Mod] 0)), ([11], some (.cells [.i d11.N, .i d11.From, .i d11.Which, .i d11.Type_, .i d11.Wants, .b d11.Known] 0)), ([12], some (.cells [.b c12.I.Lock, .i c12.I.Rep, .i c12.I.Seg, .y c12.I.Op, .i c12.I.Mod, .i c12.I.Reg, .i c12.I.RM, .w c12.I.Disp, .w c12.I.Imm, .w c12.I.Sel, .i c12.Disp.N, .i c12.Disp.From, .i c12.Disp.Which, .i c12.Disp.Type_, .i c12.Disp.Wants, .b c12.Disp.Known, .i c12.Imm.N, .i c12.Imm.From, .i c12.Imm.Which, .i c12.Imm.Type_, .i c12.Imm.Wants, .b c12.Imm.Known, .b c12.HasD, .b c12.HasI, .b c12.Jumps] 0))]⟩
def hansomlaw37_EmitInst_h47 (r8 : Row) (c12 : Choice) (b10 : (List Int)) (imms16 : Int) (tail17 : Int) (off18 : Int) (far19 : Int) (y20 : (List Int)) (g21 : (List Fixup)) (fits22 : Bool) : St := ⟨tab [(8, .ptr [8] 0 0), (10, .d (.sl (mY b10))), (12, .ptr [12] 0 0), (16, .i imms16), (17, .i tail17), (18, .i off18), (19, .i far19), (20, .d (.sl (mY y20))), (21, .d (.sl (List.map Fixup.d g21))), (22, .b fits22)], tabB [([8], some (.cells [.i r8.Name, .i r8.A, .i r8.B, .b r8.Mod] 0)), ([12], some (.cells [.b c12.I.Lock, .i c12.I.Rep, .i c12.I.Seg, .y c12.I.Op, .i c12.I.Mod, .i c12.I.Reg, .i c12.I.RM, .w c12.I.Disp, .w c12.I.Imm, .w c12.I.Sel, .i c12.Disp.N, .i c12.Disp.From, .i c12.Disp.Which, .i c12.Disp.Type_, .i c12.Disp.Wants, .b c12.Disp.Known, .i c12.Imm.N, .i c12.Imm.From, .i c12.Imm.Which, .i c12.Imm.Type_, .i c12.Imm.Wants, .b c12.Imm.Known, .b c12.HasD, .b c12.HasI, .b c12.Jumps] 0))]⟩
def hansomlaw37_EmitInst_h55 (r8 : Row) (c12 : Choice) (b10 : (List Int)) (tail17 : Int) (off18 : Int) : St := ⟨tab [(8, .ptr [8] 0 0), (10, .d (.sl (mY b10))), (12, .ptr [12] 0 0), (17, .i tail17), (18, .i off18)], tabB [([8], some (.cells [.i r8.Name, .i r8.A, .i r8.B, .b r8.Mod] 0)), ([12], some (.cells [.b c12.I.Lock, .i c12.I.Rep, .i c12.I.Seg, .y c12.I.Op, .i c12.I.Mod, .i c12.I.Reg, .i c12.I.RM, .w c12.I.Disp, .w c12.I.Imm, .w c12.I.Sel, .i c12.Disp.N, .i c12.Disp.From, .i c12.Disp.Which, .i c12.Disp.Type_, .i c12.Disp.Wants, .b c12.Disp.Known, .i c12.Imm.N, .i c12.Imm.From, .i c12.Imm.Which, .i c12.Imm.Type_, .i c12.Imm.Wants, .b c12.Imm.Known, .b c12.HasD, .b c12.HasI, .b c12.Jumps] 0))]⟩
def hansomlaw37_EmitInst_h68 (r8 : Row) (d11 : api_Value) (c12 : Choice) (n2 : Int) (b10 : (List Int)) (tail17 : Int) (off18 : Int) (t252 : Bool) : St := ⟨tab [(2, .i n2), (8, .ptr [8] 0 0), (10, .d (.sl (mY b10))), (11, .ptr [11] 0 0), (12, .ptr [12] 0 0), (17, .i tail17), (18, .i off18), (252, .b t252)], tabB [([8], some (.cells [.i r8.Name, .i r8.A, .i r8.B, .b r8.Mod] 0)), ([11], some (.cells [.i d11.N, .i d11.From, .i d11.Which, .i d11.Type_, .i d11.Wants, .b d11.Known] 0)), ([12], some (.cells [.b c12.I.Lock, .i c12.I.Rep, .i c12.I.Seg, .y c12.I.Op, .i c12.I.Mod, .i c12.I.Reg, .i c12.I.RM, .w c12.I.Disp, .w c12.I.Imm, .w c12.I.Sel, .i c12.Disp.N, .i c12.Disp.From, .i c12.Disp.Which, .i c12.Disp.Type_, .i c12.Disp.Wants, .b c12.Disp.Known, .i c12.Imm.N, .i c12.Imm.From, .i c12.Imm.Which, .i c12.Imm.Type_, .i c12.Imm.Wants, .b c12.Imm.Known, .b c12.HasD, .b c12.HasI, .b c12.Jumps] 0))]⟩
def hansomlaw37_EmitInst_h78 (d11 : api_Value) (c12 : Choice) (n2 : Int) (tail17 : Int) (off18 : Int) (t316 : Bool) : St := ⟨tab [(2, .i n2), (11, .ptr [11] 0 0), (12, .ptr [12] 0 0), (17, .i tail17), (18, .i off18), (316, .b t316)], tabB [([11], some (.cells [.i d11.N, .i d11.From, .i d11.Which, .i d11.Type_, .i d11.Wants, .b d11.Known] 0)), ([12], some (.cells [.b c12.I.Lock, .i c12.I.Rep, .i c12.I.Seg, .y c12.I.Op, .i c12.I.Mod, .i c12.I.Reg, .i c12.I.RM, .w c12.I.Disp, .w c12.I.Imm, .w c12.I.Sel, .i c12.Disp.N, .i c12.Disp.From, .i c12.Disp.Which, .i c12.Disp.Type_, .i c12.Disp.Wants, .b c12.Disp.Known, .i c12.Imm.N, .i c12.Imm.From, .i c12.Imm.Which, .i c12.Imm.Type_, .i c12.Imm.Wants, .b c12.Imm.Known, .b c12.HasD, .b c12.HasI, .b c12.Jumps] 0))]⟩
def hansomlaw37_EmitInst_h93 (n2 : Int) (tail17 : Int) (y32 : (List Int)) (g33 : (List Fixup)) (fits34 : Bool) (loc35 : Int) : St := ⟨tab [(2, .i n2), (17, .i tail17), (32, .d (.sl (mY y32))), (33, .d (.sl (List.map Fixup.d g33))), (34, .b fits34), (35, .i loc35)], tabB []⟩
def hansomlaw37_EmitInst_Q (x_ : Inst) (at_ : Int) (n_ : Int) (r : Bool) (p : Out × St) : Prop := (∀ i, p.1 ≠ .exit i) ∧ finF F6 [.d (Inst.d x_), .i at_, .i n_] p.2 = some (.b r, [.d (Inst.d x_), .i at_, .i n_])
theorem hansomlaw37_EmitInst_j55_ok (x_ : Inst) (at_ : Int) (n_ : Int) (r8 : Row) (c12 : Choice) (b10 : (List Int)) (tail17 : Int) (off18 : Int) (r : Bool) (h : hansomlaw37_EmitInst_j55 r8 c12 b10 tail17 off18 = some r) : Runs L F6b55 (hansomlaw37_EmitInst_h55 r8 c12 b10 tail17 off18) (kB 0 (kS L F6c97 (hansomlaw37_EmitInst_Q x_ at_ n_ r))) := by
 unfold hansomlaw37_EmitInst_j55 at h
 refine Sq <| Ro <| Rc 3 [vp [12] 0 16, vp [12] 0 18, ⟨.tup [], [([12], some (.cells [.b c12.I.Lock, .i c12.I.Rep, .i c12.I.Seg, .y c12.I.Op, .i c12.I.Mod, .i c12.I.Reg, .i c12.I.RM, .w c12.I.Disp, .w c12.I.Imm, .w c12.I.Sel, .i c12.Disp.N, .i c12.Disp.From, .i c12.Disp.Which, .i c12.Disp.Type_, .i c12.Disp.Wants, .b c12.Disp.Known, .i c12.Imm.N, .i c12.Imm.From, .i 2, .i c12.Imm.Type_, .i c12.Imm.Wants, .b c12.Imm.Known, .b c12.HasD, .b c12.HasI, .b c12.Jumps] 0))]⟩] <| Rk <| Sq <| Ro <| Rc 2 [⟨.d (.agg [.bool c12.I.Lock, .int .i64 c12.I.Rep, .int .i64 c12.I.Seg, .int .u8 c12.I.Op, .int .i64 c12.I.Mod, .int .i64 c12.I.Reg, .int .i64 c12.I.RM, .int .u16 c12.I.Disp, .int .u16 c12.I.Imm, .int .u16 c12.I.Sel, .int .i64 c12.Disp.N, .int .i64 c12.Disp.From, .int .i64 c12.Disp.Which, .int .i64 c12.Disp.Type_, .int .i64 c12.Disp.Wants, .bool c12.Disp.Known, .int .i64 c12.Imm.N, .int .i64 c12.Imm.From, .int .i64 2, .int .i64 c12.Imm.Type_, .int .i64 c12.Imm.Wants, .bool c12.Imm.Known, .bool c12.HasD, .bool c12.HasI, .bool c12.Jumps]), []⟩, vi off18] ?_
 obtain ⟨r_9, hr_9, h⟩ := bind_s h
 have hc_9 := emit_Inst_L ({ I := c12.I, Disp := c12.Disp, Imm := ({ c12.Imm with Which := 2 } : api_Value), HasD := c12.HasD, HasI := c12.HasI, Jumps := c12.Jumps } : Choice) 1 off18 0 0 r_9 hr_9
 refine Rt (some 183) (.callf 14) [] none [.d (.agg [.bool c12.I.Lock, .int .i64 c12.I.Rep, .int .i64 c12.I.Seg, .int .u8 c12.I.Op, .int .i64 c12.I.Mod, .int .i64 c12.I.Reg, .int .i64 c12.I.RM, .int .u16 c12.I.Disp, .int .u16 c12.I.Imm, .int .u16 c12.I.Sel, .int .i64 c12.Disp.N, .int .i64 c12.Disp.From, .int .i64 c12.Disp.Which, .int .i64 c12.Disp.Type_, .int .i64 c12.Disp.Wants, .bool c12.Disp.Known, .int .i64 c12.Imm.N, .int .i64 c12.Imm.From, .int .i64 2, .int .i64 c12.Imm.Type_, .int .i64 c12.Imm.Wants, .bool c12.Imm.Known, .bool c12.HasD, .bool c12.HasI, .bool c12.Jumps]), .i 1, .i off18, .i 0, .i 0] (.tup [.d (.sl (mY r_9.1)), .d (.sl (List.map Fixup.d r_9.2.1)), .b r_9.2.2]) [] (cc hc_9) <| Rc 7 [⟨.tup [.d (.sl (mY r_9.1)), .d (.sl (List.map Fixup.d r_9.2.1)), .b r_9.2.2], []⟩, ⟨.d (.sl (mY r_9.1)), []⟩, ⟨.d (.sl (List.map Fixup.d r_9.2.1)), []⟩, vb r_9.2.2, ⟨.d (.sl (mY r_9.1)), []⟩, ⟨.d (.sl (List.map Fixup.d r_9.2.1)), []⟩, vb r_9.2.2] <| Rk <| Sq <| Ro <| Rc 3 [⟨.d (.agg [.int .i64 0, .int .i64 3, .int .i64 3, .int .i64 0, .int .i64 0, .bool true]), []⟩, vp [12] 0 16, ⟨.tup [], [([12], some (.cells [.b c12.I.Lock, .i c12.I.Rep, .i c12.I.Seg, .y c12.I.Op, .i c12.I.Mod, .i c12.I.Reg, .i c12.I.RM, .w c12.I.Disp, .w c12.I.Imm, .w c12.I.Sel, .i c12.Disp.N, .i c12.Disp.From, .i c12.Disp.Which, .i c12.Disp.Type_, .i c12.Disp.Wants, .b c12.Disp.Known, .i 0, .i 3, .i 3, .i 0, .i 0, .b true, .b c12.HasD, .b c12.HasI, .b c12.Jumps] 0))]⟩] ?_
 refine Rk <| Sq <| Ro <| Rc 2 [⟨.d (.agg [.bool c12.I.Lock, .int .i64 c12.I.Rep, .int .i64 c12.I.Seg, .int .u8 c12.I.Op, .int .i64 c12.I.Mod, .int .i64 c12.I.Reg, .int .i64 c12.I.RM, .int .u16 c12.I.Disp, .int .u16 c12.I.Imm, .int .u16 c12.I.Sel, .int .i64 c12.Disp.N, .int .i64 c12.Disp.From, .int .i64 c12.Disp.Which, .int .i64 c12.Disp.Type_, .int .i64 c12.Disp.Wants, .bool c12.Disp.Known, .int .i64 0, .int .i64 3, .int .i64 3, .int .i64 0, .int .i64 0, .bool true, .bool c12.HasD, .bool c12.HasI, .bool c12.Jumps]), []⟩, vi off18] ?_
 obtain ⟨r_10, hr_10, h⟩ := bind_s h
 have hc_10 := emit_Inst_L ({ I := c12.I, Disp := c12.Disp, Imm := ({ N := 0, From := 3, Which := 3, Type_ := 0, Wants := 0, Known := true } : api_Value), HasD := c12.HasD, HasI := c12.HasI, Jumps := c12.Jumps } : Choice) 1 off18 0 0 r_10 hr_10
 refine Rt (some 192) (.callf 14) [] none [.d (.agg [.bool c12.I.Lock, .int .i64 c12.I.Rep, .int .i64 c12.I.Seg, .int .u8 c12.I.Op, .int .i64 c12.I.Mod, .int .i64 c12.I.Reg, .int .i64 c12.I.RM, .int .u16 c12.I.Disp, .int .u16 c12.I.Imm, .int .u16 c12.I.Sel, .int .i64 c12.Disp.N, .int .i64 c12.Disp.From, .int .i64 c12.Disp.Which, .int .i64 c12.Disp.Type_, .int .i64 c12.Disp.Wants, .bool c12.Disp.Known, .int .i64 0, .int .i64 3, .int .i64 3, .int .i64 0, .int .i64 0, .bool true, .bool c12.HasD, .bool c12.HasI, .bool c12.Jumps]), .i 1, .i off18, .i 0, .i 0] (.tup [.d (.sl (mY r_10.1)), .d (.sl (List.map Fixup.d r_10.2.1)), .b r_10.2.2]) [] (cc hc_10) <| Rc 7 [⟨.tup [.d (.sl (mY r_10.1)), .d (.sl (List.map Fixup.d r_10.2.1)), .b r_10.2.2], []⟩, ⟨.d (.sl (mY r_10.1)), []⟩, ⟨.d (.sl (List.map Fixup.d r_10.2.1)), []⟩, vb r_10.2.2, ⟨.d (.sl (mY r_10.1)), []⟩, ⟨.d (.sl (List.map Fixup.d r_10.2.1)), []⟩, vb r_10.2.2] <| Rk <| Sq <| Ro ?_
 obtain ⟨r_11, hr_11, h⟩ := bind_s h
 have hc_11 := hansomlaw37_awake_L r_11 hr_11
 refine Rt (some 196) (.callf 16) [] none [] (.b r_11) [] (cc hc_11) <| Rc 1 [vb r_11] ?_
 cases hb_19 : (r_11 : Bool) with
 | true =>
  replace h := ite_t hb_19 h
  refine Rc 4 [vb r_9.2.2, vb (!r_9.2.2), vb (!r_9.2.2), vb (!r_9.2.2)] ?_
  cases hb_20 : ((!r_9.2.2) : Bool) with
  | true =>
   replace h := ite_t hb_20 h
   refine Rc 7 [vb r_10.2.2, vp [8] 0 1, vi r8.A, vb (r8.A == 10), vb (r_10.2.2 == (r8.A == 10)), vb (r_10.2.2 == (r8.A == 10)), vb (r_10.2.2 == (r8.A == 10))] ?_
   cases hb_21 : ((r_10.2.2 == (r8.A == 10)) : Bool) with
   | true =>
    replace h := ite_t hb_21 h
    refine Rc 3 [vb r_10.2.2, vb (!r_10.2.2), vb (!r_10.2.2)] ?_
    cases hb_22 : ((!r_10.2.2) : Bool) with
    | true =>
     replace h := ite_t hb_22 h
     refine Rc 41 [vn, vn, vn, vn, vn, vn, vn, vn, vn, vn, vn, vn, vn, vn, vn, vn, vn, vn, vn, vn, vn, vn, vn, vn, vn, vn, vn, vn, vn, vn, vn, vn, vn, vn, vn, vn, vn, vn, vb true, vb true, vb true] <| Rk <| Runs.ret <| kB_ret <| kS_ret ?_
     cases h
     exact Fq
    | false =>
     replace h := ite_f hb_22 h
     refine Rc 1 [⟨.d (.sl (List.map Fixup.d r_10.2.1)), []⟩] <| Rt (some 213) .lenL [] none [.d (.sl (List.map Fixup.d r_10.2.1))] (.i (r_10.2.1.length : Int)) [] (cut_len _) <| Rc 2 [vb ((r_10.2.1.length : Int) == 1), vb ((r_10.2.1.length : Int) == 1)] ?_
     cases hb_23 : (((r_10.2.1.length : Int) == 1) : Bool) with
     | true =>
      replace h := ite_t hb_23 h
      refine Rc 1 [⟨.d (.sl (List.map Fixup.d r_10.2.1)), []⟩] ?_
      obtain ⟨z_3, hz_3, h⟩ := bind_s h
      refine Rt (some 217) (.iaddrS 8) [] none [.d (.sl (List.map Fixup.d r_10.2.1)), .i 0] (.elt (Fixup.d z_3) 0) [] (cut_at hz_3 (fun _ => rfl)) <| Rc 4 [⟨.elt (Fixup.d z_3) 2, []⟩, vb z_3.Self, vb z_3.Self, vb z_3.Self] ?_
      cases hb_24 : (z_3.Self : Bool) with
      | true =>
       replace h := ite_t hb_24 h
       refine Rc 1 [⟨.d (.sl (List.map Fixup.d r_10.2.1)), []⟩] ?_
       obtain ⟨z_4, hz_4, h⟩ := bind_s h
       refine Rt (some 223) (.iaddrS 8) [] none [.d (.sl (List.map Fixup.d r_10.2.1)), .i 0] (.elt (Fixup.d z_4) 0) [] (cut_at hz_4 (fun _ => rfl)) <| Rc 6 [⟨.elt (Fixup.d z_4) 0, []⟩, vi z_4.At, vi tail17, vb (z_4.At == tail17), vb (z_4.At == tail17), vb (z_4.At == tail17)] ?_
       cases hb_25 : ((z_4.At == tail17) : Bool) with
       | true =>
        replace h := ite_t hb_25 h
        refine Rc 1 [⟨.d (.sl (List.map Fixup.d r_10.2.1)), []⟩] ?_
        obtain ⟨z_5, hz_5, h⟩ := bind_s h
        refine Rt (some 231) (.iaddrS 8) [] none [.d (.sl (List.map Fixup.d r_10.2.1)), .i 0] (.elt (Fixup.d z_5) 0) [] (cut_at hz_5 (fun _ => rfl)) <| Rc 5 [⟨.elt (Fixup.d z_5) 1, []⟩, vi z_5.Loc, vb (z_5.Loc == 1), vb (z_5.Loc == 1), vb (z_5.Loc == 1)] ?_
        cases hb_26 : ((z_5.Loc == 1) : Bool) with
        | true =>
         replace h := ite_t hb_26 h
         refine Rc 1 [⟨.d (.sl (List.map Fixup.d r_10.2.1)), []⟩] ?_
         obtain ⟨z_6, hz_6, h⟩ := bind_s h
         refine Rt (some 238) (.iaddrS 8) [] none [.d (.sl (List.map Fixup.d r_10.2.1)), .i 0] (.elt (Fixup.d z_6) 0) [] (cut_at hz_6 (fun _ => rfl)) <| Rc 5 [⟨.elt (Fixup.d z_6) 6, []⟩, vi z_6.N, vb (z_6.N == 3), vb (z_6.N == 3), vb (z_6.N == 3)] ?_
         cases hb_27 : ((z_6.N == 3) : Bool) with
         | true =>
          replace h := ite_t hb_27 h
          refine Rc 1 [⟨.d (.sl (mY r_10.1)), []⟩] <| Rt (some 245) .lenL [] none [.d (.sl (mY r_10.1))] (.i (r_10.1.length : Int)) [] (cut_len _) <| Rc 1 [⟨.d (.sl (mY b10)), []⟩] <| Rt (some 247) .lenL [] none [.d (.sl (mY b10))] (.i (b10.length : Int)) [] (cut_len _) <| Rc 5 [vb ((r_10.1.length : Int) == (b10.length : Int)), vb ((r_10.1.length : Int) == (b10.length : Int)), vb ((r_10.1.length : Int) == (b10.length : Int)), vb ((r_10.1.length : Int) == (b10.length : Int)), vb ((r_10.1.length : Int) == (b10.length : Int))] <| Rk <| Runs.ret <| kB_ret <| kS_ret ?_
          cases h
          exact Fq
         | false =>
          replace h := ite_f hb_27 h
          refine Rc 9 [vn, vn, vn, vn, vn, vb false, vb false, vb false, vb false] <| Rk <| Runs.ret <| kB_ret <| kS_ret ?_
          cases h
          exact Fq
        | false =>
         replace h := ite_f hb_26 h
         refine Rc 16 [vn, vn, vn, vn, vn, vb false, vb false, vn, vn, vn, vn, vn, vb false, vb false, vb false, vb false] <| Rk <| Runs.ret <| kB_ret <| kS_ret ?_
         cases h
         exact Fq
       | false =>
        replace h := ite_f hb_25 h
        refine Rc 23 [vn, vn, vn, vn, vn, vb false, vb false, vn, vn, vn, vn, vn, vb false, vb false, vn, vn, vn, vn, vn, vb false, vb false, vb false, vb false] <| Rk <| Runs.ret <| kB_ret <| kS_ret ?_
        cases h
        exact Fq
      | false =>
       replace h := ite_f hb_24 h
       refine Rc 31 [vn, vn, vn, vn, vn, vn, vb false, vb false, vn, vn, vn, vn, vn, vb false, vb false, vn, vn, vn, vn, vn, vb false, vb false, vn, vn, vn, vn, vn, vb false, vb false, vb false, vb false] <| Rk <| Runs.ret <| kB_ret <| kS_ret ?_
       cases h
       exact Fq
     | false =>
      replace h := ite_f hb_23 h
      refine Rc 37 [vn, vn, vn, vn, vb false, vb false, vn, vn, vn, vn, vn, vn, vb false, vb false, vn, vn, vn, vn, vn, vb false, vb false, vn, vn, vn, vn, vn, vb false, vb false, vn, vn, vn, vn, vn, vb false, vb false, vb false, vb false] <| Rk <| Runs.ret <| kB_ret <| kS_ret ?_
      cases h
      exact Fq
   | false =>
    replace h := ite_f hb_21 h
    refine Rc 44 [vn, vn, vn, vn, vn, vn, vn, vn, vn, vn, vn, vn, vn, vn, vn, vn, vn, vn, vn, vn, vn, vn, vn, vn, vn, vn, vn, vn, vn, vn, vn, vn, vn, vn, vn, vn, vn, vn, vn, vn, vn, vn, vb false, vb false] <| Rk <| Runs.ret <| kB_ret <| kS_ret ?_
    cases h
    exact Fq
  | false =>
   replace h := ite_f hb_20 h
   refine Rc 51 [vn, vn, vn, vn, vn, vb false, vb false, vn, vn, vn, vn, vn, vn, vn, vn, vn, vn, vn, vn, vn, vn, vn, vn, vn, vn, vn, vn, vn, vn, vn, vn, vn, vn, vn, vn, vn, vn, vn, vn, vn, vn, vn, vn, vn, vn, vn, vn, vn, vn, vb false, vb false] <| Rk <| Runs.ret <| kB_ret <| kS_ret ?_
   cases h
   exact Fq
 | false =>
  replace h := ite_f hb_19 h
  refine Rc 55 [vn, vn, vb false, vb false, vn, vn, vn, vn, vn, vb false, vb false, vn, vn, vn, vn, vn, vn, vn, vn, vn, vn, vn, vn, vn, vn, vn, vn, vn, vn, vn, vn, vn, vn, vn, vn, vn, vn, vn, vn, vn, vn, vn, vn, vn, vn, vn, vn, vn, vn, vn, vn, vn, vn, vb false, vb false] <| Rk <| Runs.ret <| kB_ret <| kS_ret ?_
  cases h
  exact Fq
theorem hansomlaw37_EmitInst_j47_ok (x_ : Inst) (at_ : Int) (n_ : Int) (r8 : Row) (c12 : Choice) (b10 : (List Int)) (imms16 : Int) (tail17 : Int) (off18 : Int) (far19 : Int) (y20 : (List Int)) (g21 : (List Fixup)) (fits22 : Bool) (r : Bool) (h : hansomlaw37_EmitInst_j47 r8 c12 b10 imms16 tail17 off18 far19 y20 g21 fits22 = some r) : Runs L F6b47 (hansomlaw37_EmitInst_h47 r8 c12 b10 imms16 tail17 off18 far19 y20 g21 fits22) (kB 0 (kS L F6c97 (hansomlaw37_EmitInst_Q x_ at_ n_ r))) := by
 unfold hansomlaw37_EmitInst_j47 at h
 refine Sq <| Sq <| Ro <| Rc 3 [vb fits22, vb (!fits22), vb (!fits22)] ?_
 cases hb_13 : ((!fits22) : Bool) with
 | true =>
  replace h := ite_t hb_13 h
  refine Rc 35 [vn, vn, vn, vb true, vb true, vn, vn, vn, vn, vn, vb true, vb true, vn, vn, vn, vn, vn, vn, vn, vb true, vb true, vn, vn, vn, vn, vn, vn, vn, vn, vn, vn, vn, vn, vn, vb true] <| Rk <| Ct <| Sq <| Ro <| Rc 1 [vb false] <| Rk <| Runs.ret <| kS_ret <| kB_ret <| kS_ret ?_
  cases h
  exact Fq
 | false =>
  replace h := ite_f hb_13 h
  refine Rc 1 [⟨.d (.sl (List.map Fixup.d g21)), []⟩] <| Rt (some 144) .lenL [] none [.d (.sl (List.map Fixup.d g21))] (.i (g21.length : Int)) [] (cut_len _) <| Rc 3 [vb ((g21.length : Int) != 0), vb ((g21.length : Int) != 0), vb ((g21.length : Int) != 0)] ?_
  cases hb_14 : (((g21.length : Int) != 0) : Bool) with
  | true =>
   replace h := ite_t hb_14 h
   refine Rc 30 [vn, vn, vn, vn, vn, vb true, vb true, vn, vn, vn, vn, vn, vn, vn, vb true, vb true, vn, vn, vn, vn, vn, vn, vn, vn, vn, vn, vn, vn, vn, vb true] <| Rk <| Ct <| Sq <| Ro <| Rc 1 [vb false] <| Rk <| Runs.ret <| kS_ret <| kB_ret <| kS_ret ?_
   cases h
   exact Fq
  | false =>
   replace h := ite_f hb_14 h
   refine Rc 1 [⟨.d (.sl (mY y20)), []⟩] <| Rt (some 149) .lenL [] none [.d (.sl (mY y20))] (.i (y20.length : Int)) [] (cut_len _) <| Rc 1 [⟨.d (.sl (mY b10)), []⟩] <| Rt (some 151) .lenL [] none [.d (.sl (mY b10))] (.i (b10.length : Int)) [] (cut_len _) <| Rc 3 [vb ((y20.length : Int) != (b10.length : Int)), vb ((y20.length : Int) != (b10.length : Int)), vb ((y20.length : Int) != (b10.length : Int))] ?_
   cases hb_15 : (((y20.length : Int) != (b10.length : Int)) : Bool) with
   | true =>
    replace h := ite_t hb_15 h
    refine Rc 23 [vn, vn, vn, vn, vn, vn, vn, vb true, vb true, vn, vn, vn, vn, vn, vn, vn, vn, vn, vn, vn, vn, vn, vb true] <| Rk <| Ct <| Sq <| Ro <| Rc 1 [vb false] <| Rk <| Runs.ret <| kS_ret <| kB_ret <| kS_ret ?_
    cases h
    exact Fq
   | false =>
    replace h := ite_f hb_15 h
    refine Rc 2 [⟨.d (.sl (mY y20)), []⟩, vi tail17] ?_
    obtain ⟨z_1, hz_1, h⟩ := bind_s h
    refine Rt (some 157) (.iaddrS 1) [] none [.d (.sl (mY y20)), .i tail17] (.elt (.int .u8 z_1) 0) [] (cut_at hz_1 (fun _ => rfl)) <| Rc 6 [vy z_1, vi far19, vy (IntKind.wrap .u8 far19), vb (z_1 != (IntKind.wrap .u8 far19)), vb (z_1 != (IntKind.wrap .u8 far19)), vb (z_1 != (IntKind.wrap .u8 far19))] ?_
    cases hb_16 : ((z_1 != (IntKind.wrap .u8 far19)) : Bool) with
    | true =>
     replace h := ite_t hb_16 h
     refine Rc 14 [vn, vn, vn, vn, vn, vn, vn, vn, vn, vn, vn, vn, vn, vb true] <| Rk <| Ct <| Sq <| Ro <| Rc 1 [vb false] <| Rk <| Runs.ret <| kS_ret <| kB_ret <| kS_ret ?_
     cases h
     exact Fq
    | false =>
     replace h := ite_f hb_16 h
     refine Rc 3 [vi imms16, vb (imms16 == 2), vb (imms16 == 2)] ?_
     cases hb_17 : ((imms16 == 2) : Bool) with
     | true =>
      replace h := ite_t hb_17 h
      refine Rc 3 [⟨.d (.sl (mY y20)), []⟩, vi tail17, vi (IntKind.wrap .i64 (tail17 + 1))] ?_
      obtain ⟨z_2, hz_2, h⟩ := bind_s h
      refine Rt (some 170) (.iaddrS 1) [] none [.d (.sl (mY y20)), .i (IntKind.wrap .i64 (tail17 + 1))] (.elt (.int .u8 z_2) 0) [] (cut_at hz_2 (fun _ => rfl)) <| Rc 7 [vy z_2, vi far19, vi (shrI .i64 far19 8), vy (IntKind.wrap .u8 (shrI .i64 far19 8)), vb (z_2 != (IntKind.wrap .u8 (shrI .i64 far19 8))), vb (z_2 != (IntKind.wrap .u8 (shrI .i64 far19 8))), vb (z_2 != (IntKind.wrap .u8 (shrI .i64 far19 8)))] <| Rk ?_
      cases hb_18 : ((z_2 != (IntKind.wrap .u8 (shrI .i64 far19 8))) : Bool) with
      | true =>
       replace h := ite_t hb_18 h
       refine Ct <| Sq <| Ro <| Rc 1 [vb false] <| Rk <| Runs.ret <| kS_ret <| kB_ret <| kS_ret ?_
       cases h
       exact Fq
      | false =>
       replace h := ite_f hb_18 h
       refine Cf <| Runs.skip <| kS_nrm <| Runs.canon (hansomlaw37_EmitInst_h55 r8 c12 b10 tail17 off18) Cz ?_
       exact hansomlaw37_EmitInst_j55_ok x_ at_ n_ r8 c12 b10 tail17 off18 r h
     | false =>
      replace h := ite_f hb_17 h
      refine Rc 11 [vn, vn, vn, vn, vn, vn, vn, vn, vn, vb false, vb false] <| Rk <| Cf <| Runs.skip <| kS_nrm <| Runs.canon (hansomlaw37_EmitInst_h55 r8 c12 b10 tail17 off18) Cz ?_
      exact hansomlaw37_EmitInst_j55_ok x_ at_ n_ r8 c12 b10 tail17 off18 r h
theorem hansomlaw37_EmitInst_j93_ok (x_ : Inst) (at_ : Int) (n_ : Int) (n2 : Int) (tail17 : Int) (y32 : (List Int)) (g33 : (List Fixup)) (fits34 : Bool) (loc35 : Int) (r : Bool) (h : hansomlaw37_EmitInst_j93 n2 tail17 y32 g33 fits34 loc35 = some r) : Runs L F6b93 (hansomlaw37_EmitInst_h93 n2 tail17 y32 g33 fits34 loc35) (kB 0 (kS L F6c97 (hansomlaw37_EmitInst_Q x_ at_ n_ r))) := by
 unfold hansomlaw37_EmitInst_j93 at h
 refine Sq <| Ro ?_
 obtain ⟨r_16, hr_16, h⟩ := bind_s h
 have hc_16 := hansomlaw37_awake_L r_16 hr_16
 refine Rt (some 343) (.callf 16) [] none [] (.b r_16) [] (cc hc_16) <| Rc 1 [vb r_16] ?_
 cases hb_39 : (r_16 : Bool) with
 | true =>
  replace h := ite_t hb_39 h
  refine Rc 3 [vb fits34, vb fits34, vb fits34] ?_
  cases hb_40 : (fits34 : Bool) with
  | true =>
   replace h := ite_t hb_40 h
   refine Rc 2 [⟨.d (.sl (mY y32)), []⟩, vi tail17] ?_
   obtain ⟨z_10, hz_10, h⟩ := bind_s h
   refine Rt (some 350) (.iaddrS 1) [] none [.d (.sl (mY y32)), .i tail17] (.elt (.int .u8 z_10) 0) [] (cut_at hz_10 (fun _ => rfl)) <| Rc 4 [vy z_10, vb (z_10 == 0), vb (z_10 == 0), vb (z_10 == 0)] ?_
   cases hb_41 : ((z_10 == 0) : Bool) with
   | true =>
    replace h := ite_t hb_41 h
    refine Rc 3 [⟨.d (.sl (mY y32)), []⟩, vi tail17, vi (IntKind.wrap .i64 (tail17 + 1))] ?_
    obtain ⟨z_11, hz_11, h⟩ := bind_s h
    refine Rt (some 358) (.iaddrS 1) [] none [.d (.sl (mY y32)), .i (IntKind.wrap .i64 (tail17 + 1))] (.elt (.int .u8 z_11) 0) [] (cut_at hz_11 (fun _ => rfl)) <| Rc 4 [vy z_11, vb (z_11 == 0), vb (z_11 == 0), vb (z_11 == 0)] ?_
    cases hb_42 : ((z_11 == 0) : Bool) with
    | true =>
     replace h := ite_t hb_42 h
     refine Rc 1 [⟨.d (.sl (List.map Fixup.d g33)), []⟩] <| Rt (some 364) .lenL [] none [.d (.sl (List.map Fixup.d g33))] (.i (g33.length : Int)) [] (cut_len _) <| Rc 3 [vb ((g33.length : Int) == 1), vb ((g33.length : Int) == 1), vb ((g33.length : Int) == 1)] ?_
     cases hb_43 : (((g33.length : Int) == 1) : Bool) with
     | true =>
      replace h := ite_t hb_43 h
      refine Rc 1 [⟨.d (.sl (List.map Fixup.d g33)), []⟩] ?_
      obtain ⟨z_12, hz_12, h⟩ := bind_s h
      refine Rt (some 369) (.iaddrS 8) [] none [.d (.sl (List.map Fixup.d g33)), .i 0] (.elt (Fixup.d z_12) 0) [] (cut_at hz_12 (fun _ => rfl)) <| Rc 9 [⟨.d (Fixup.d z_12), []⟩, vi tail17, vi loc35, vi n2, vw (IntKind.wrap .u16 n2), ⟨.d (.agg [.int .i64 tail17, .int .i64 loc35, .bool false, .int .i64 5, .int .i64 0, .int .i64 0, .int .i64 2, .int .u16 (IntKind.wrap .u16 n2)]), []⟩, vb (z_12.At == tail17 && (z_12.Loc == loc35 && (z_12.Self == false && (z_12.Frame == 5 && (z_12.FrameN == 0 && (z_12.Target == 0 && (z_12.N == 2 && (z_12.Disp == (IntKind.wrap .u16 n2) && true)))))))), vb (z_12.At == tail17 && (z_12.Loc == loc35 && (z_12.Self == false && (z_12.Frame == 5 && (z_12.FrameN == 0 && (z_12.Target == 0 && (z_12.N == 2 && (z_12.Disp == (IntKind.wrap .u16 n2) && true)))))))), vb (z_12.At == tail17 && (z_12.Loc == loc35 && (z_12.Self == false && (z_12.Frame == 5 && (z_12.FrameN == 0 && (z_12.Target == 0 && (z_12.N == 2 && (z_12.Disp == (IntKind.wrap .u16 n2) && true))))))))] <| Rk <| Runs.ret <| kB_ret <| kS_ret ?_
      cases h
      exact Fq
     | false =>
      replace h := ite_f hb_43 h
      refine Rc 11 [vn, vn, vn, vn, vn, vn, vn, vn, vn, vb false, vb false] <| Rk <| Runs.ret <| kB_ret <| kS_ret ?_
      cases h
      exact Fq
    | false =>
     replace h := ite_f hb_42 h
     refine Rc 16 [vn, vn, vn, vb false, vb false, vn, vn, vn, vn, vn, vn, vn, vn, vn, vb false, vb false] <| Rk <| Runs.ret <| kB_ret <| kS_ret ?_
     cases h
     exact Fq
   | false =>
    replace h := ite_f hb_41 h
    refine Rc 24 [vn, vn, vn, vn, vn, vn, vb false, vb false, vn, vn, vn, vb false, vb false, vn, vn, vn, vn, vn, vn, vn, vn, vn, vb false, vb false] <| Rk <| Runs.ret <| kB_ret <| kS_ret ?_
    cases h
    exact Fq
  | false =>
   replace h := ite_f hb_40 h
   refine Rc 31 [vn, vn, vn, vn, vn, vb false, vb false, vn, vn, vn, vn, vn, vn, vb false, vb false, vn, vn, vn, vb false, vb false, vn, vn, vn, vn, vn, vn, vn, vn, vn, vb false, vb false] <| Rk <| Runs.ret <| kB_ret <| kS_ret ?_
   cases h
   exact Fq
 | false =>
  replace h := ite_f hb_39 h
  refine Rc 34 [vn, vb false, vb false, vn, vn, vn, vn, vn, vb false, vb false, vn, vn, vn, vn, vn, vn, vb false, vb false, vn, vn, vn, vb false, vb false, vn, vn, vn, vn, vn, vn, vn, vn, vn, vb false, vb false] <| Rk <| Runs.ret <| kB_ret <| kS_ret ?_
  cases h
  exact Fq
theorem hansomlaw37_EmitInst_j78_ok (x_ : Inst) (at_ : Int) (n_ : Int) (d11 : api_Value) (c12 : Choice) (n2 : Int) (tail17 : Int) (off18 : Int) (t316 : Bool) (r : Bool) (h : hansomlaw37_EmitInst_j78 d11 c12 n2 tail17 off18 t316 = some r) : Runs L F6b78 (hansomlaw37_EmitInst_h78 d11 c12 n2 tail17 off18 t316) (kB 0 (kS L F6c97 (hansomlaw37_EmitInst_Q x_ at_ n_ r))) := by
 unfold hansomlaw37_EmitInst_j78 at h
 cases hb_37 : (t316 : Bool) with
 | true =>
  replace h := ite_t hb_37 h
  refine Ct <| Sq <| Ro <| Rc 6 [vi n2, vi (shrI .i64 n2 16), vi (bitsOp .and .i64 (shrI .i64 n2 16) 1), vi (IntKind.wrap .i64 (1 + (bitsOp .and .i64 (shrI .i64 n2 16) 1))), vp [11] 0 4, ⟨.tup [], [([11], some (.cells [.i d11.N, .i d11.From, .i d11.Which, .i d11.Type_, .i (IntKind.wrap .i64 (1 + (bitsOp .and .i64 (shrI .i64 n2 16) 1))), .b d11.Known] 0))]⟩] <| Rk <| Sq <| Ro <| Rc 5 [⟨.d (.agg [.int .i64 d11.N, .int .i64 d11.From, .int .i64 d11.Which, .int .i64 d11.Type_, .int .i64 (IntKind.wrap .i64 (1 + (bitsOp .and .i64 (shrI .i64 n2 16) 1))), .bool d11.Known]), []⟩, vp [12] 0 23, ⟨.tup [], [([12], some (.cells [.b c12.I.Lock, .i c12.I.Rep, .i c12.I.Seg, .y c12.I.Op, .i c12.I.Mod, .i c12.I.Reg, .i c12.I.RM, .w c12.I.Disp, .w c12.I.Imm, .w c12.I.Sel, .i c12.Disp.N, .i c12.Disp.From, .i c12.Disp.Which, .i c12.Disp.Type_, .i c12.Disp.Wants, .b c12.Disp.Known, .i c12.Imm.N, .i c12.Imm.From, .i c12.Imm.Which, .i c12.Imm.Type_, .i c12.Imm.Wants, .b c12.Imm.Known, .b c12.HasD, .b true, .b c12.Jumps] 0))]⟩, vp [12] 0 16, ⟨.tup [], [([12], some (.cells [.b c12.I.Lock, .i c12.I.Rep, .i c12.I.Seg, .y c12.I.Op, .i c12.I.Mod, .i c12.I.Reg, .i c12.I.RM, .w c12.I.Disp, .w c12.I.Imm, .w c12.I.Sel, .i c12.Disp.N, .i c12.Disp.From, .i c12.Disp.Which, .i c12.Disp.Type_, .i c12.Disp.Wants, .b c12.Disp.Known, .i d11.N, .i d11.From, .i d11.Which, .i d11.Type_, .i (IntKind.wrap .i64 (1 + (bitsOp .and .i64 (shrI .i64 n2 16) 1))), .b d11.Known, .b c12.HasD, .b true, .b c12.Jumps] 0))]⟩] ?_
  refine Rk <| Sq <| Ro <| Rc 2 [⟨.d (.agg [.bool c12.I.Lock, .int .i64 c12.I.Rep, .int .i64 c12.I.Seg, .int .u8 c12.I.Op, .int .i64 c12.I.Mod, .int .i64 c12.I.Reg, .int .i64 c12.I.RM, .int .u16 c12.I.Disp, .int .u16 c12.I.Imm, .int .u16 c12.I.Sel, .int .i64 c12.Disp.N, .int .i64 c12.Disp.From, .int .i64 c12.Disp.Which, .int .i64 c12.Disp.Type_, .int .i64 c12.Disp.Wants, .bool c12.Disp.Known, .int .i64 d11.N, .int .i64 d11.From, .int .i64 d11.Which, .int .i64 d11.Type_, .int .i64 (IntKind.wrap .i64 (1 + (bitsOp .and .i64 (shrI .i64 n2 16) 1))), .bool d11.Known, .bool c12.HasD, .bool true, .bool c12.Jumps]), []⟩, vi off18] ?_
  obtain ⟨r_15, hr_15, h⟩ := bind_s h
  have hc_15 := emit_Inst_L ({ I := c12.I, Disp := c12.Disp, Imm := ({ d11 with Wants := (IntKind.wrap .i64 (1 + (bitsOp .and .i64 (shrI .i64 n2 16) 1))) } : api_Value), HasD := c12.HasD, HasI := true, Jumps := c12.Jumps } : Choice) 1 off18 0 0 r_15 hr_15
  refine Rt (some 336) (.callf 14) [] none [.d (.agg [.bool c12.I.Lock, .int .i64 c12.I.Rep, .int .i64 c12.I.Seg, .int .u8 c12.I.Op, .int .i64 c12.I.Mod, .int .i64 c12.I.Reg, .int .i64 c12.I.RM, .int .u16 c12.I.Disp, .int .u16 c12.I.Imm, .int .u16 c12.I.Sel, .int .i64 c12.Disp.N, .int .i64 c12.Disp.From, .int .i64 c12.Disp.Which, .int .i64 c12.Disp.Type_, .int .i64 c12.Disp.Wants, .bool c12.Disp.Known, .int .i64 d11.N, .int .i64 d11.From, .int .i64 d11.Which, .int .i64 d11.Type_, .int .i64 (IntKind.wrap .i64 (1 + (bitsOp .and .i64 (shrI .i64 n2 16) 1))), .bool d11.Known, .bool c12.HasD, .bool true, .bool c12.Jumps]), .i 1, .i off18, .i 0, .i 0] (.tup [.d (.sl (mY r_15.1)), .d (.sl (List.map Fixup.d r_15.2.1)), .b r_15.2.2]) [] (cc hc_15) <| Rc 7 [⟨.tup [.d (.sl (mY r_15.1)), .d (.sl (List.map Fixup.d r_15.2.1)), .b r_15.2.2], []⟩, ⟨.d (.sl (mY r_15.1)), []⟩, ⟨.d (.sl (List.map Fixup.d r_15.2.1)), []⟩, vb r_15.2.2, ⟨.d (.sl (mY r_15.1)), []⟩, ⟨.d (.sl (List.map Fixup.d r_15.2.1)), []⟩, vb r_15.2.2] <| Rk <| Sq <| Ro <| Rc 1 [vi 1] <| Rk <| Sq <| Sq <| Ro <| Rc 3 [vp [11] 0 4, vi (IntKind.wrap .i64 (1 + (bitsOp .and .i64 (shrI .i64 n2 16) 1))), vb ((IntKind.wrap .i64 (1 + (bitsOp .and .i64 (shrI .i64 n2 16) 1))) == 2)] ?_
  refine Rk ?_
  cases hb_38 : (((IntKind.wrap .i64 (1 + (bitsOp .and .i64 (shrI .i64 n2 16) 1))) == 2) : Bool) with
  | true =>
   replace h := ite_t hb_38 h
   refine Ct <| Ro <| Rc 1 [vi 2] <| Rk <| Runs.canon (hansomlaw37_EmitInst_h93 n2 tail17 r_15.1 r_15.2.1 r_15.2.2 2) Cz ?_
   exact hansomlaw37_EmitInst_j93_ok x_ at_ n_ n2 tail17 r_15.1 r_15.2.1 r_15.2.2 2 r h
  | false =>
   replace h := ite_f hb_38 h
   refine Cf <| Runs.skip <| kS_nrm <| Runs.canon (hansomlaw37_EmitInst_h93 n2 tail17 r_15.1 r_15.2.1 r_15.2.2 1) Cz ?_
   exact hansomlaw37_EmitInst_j93_ok x_ at_ n_ n2 tail17 r_15.1 r_15.2.1 r_15.2.2 1 r h
 | false =>
  replace h := ite_f hb_37 h
  refine Cf <| Runs.skip <| kB_nrm <| kS_nrm <| Sq <| Ro ?_
  obtain ⟨r_17, hr_17, h⟩ := bind_s h
  have hc_17 := hansomlaw37_awake_L r_17 hr_17
  refine Rt (some 378) (.callf 16) [] none [] (.b r_17) [] (cc hc_17) <| Rc 1 [vb r_17] <| Rk <| Runs.ret ?_
  cases h
  exact Fq
theorem hansomlaw37_EmitInst_j68_ok (x_ : Inst) (at_ : Int) (n_ : Int) (r8 : Row) (d11 : api_Value) (c12 : Choice) (n2 : Int) (b10 : (List Int)) (tail17 : Int) (off18 : Int) (t252 : Bool) (r : Bool) (h : hansomlaw37_EmitInst_j68 r8 d11 c12 n2 b10 tail17 off18 t252 = some r) : Runs L F6b68 (hansomlaw37_EmitInst_h68 r8 d11 c12 n2 b10 tail17 off18 t252) (kB 0 (kS L F6c97 (hansomlaw37_EmitInst_Q x_ at_ n_ r))) := by
 unfold hansomlaw37_EmitInst_j68 at h
 cases hb_29 : (t252 : Bool) with
 | true =>
  replace h := ite_t hb_29 h
  refine Ct <| Sq <| Ro <| Rc 5 [⟨.d (api_Value.d d11), []⟩, vp [12] 0 22, ⟨.tup [], [([12], some (.cells [.b c12.I.Lock, .i c12.I.Rep, .i c12.I.Seg, .y c12.I.Op, .i c12.I.Mod, .i c12.I.Reg, .i c12.I.RM, .w c12.I.Disp, .w c12.I.Imm, .w c12.I.Sel, .i c12.Disp.N, .i c12.Disp.From, .i c12.Disp.Which, .i c12.Disp.Type_, .i c12.Disp.Wants, .b c12.Disp.Known, .i c12.Imm.N, .i c12.Imm.From, .i c12.Imm.Which, .i c12.Imm.Type_, .i c12.Imm.Wants, .b c12.Imm.Known, .b true, .b c12.HasI, .b c12.Jumps] 0))]⟩, vp [12] 0 10, ⟨.tup [], [([12], some (.cells [.b c12.I.Lock, .i c12.I.Rep, .i c12.I.Seg, .y c12.I.Op, .i c12.I.Mod, .i c12.I.Reg, .i c12.I.RM, .w c12.I.Disp, .w c12.I.Imm, .w c12.I.Sel, .i d11.N, .i d11.From, .i d11.Which, .i d11.Type_, .i d11.Wants, .b d11.Known, .i c12.Imm.N, .i c12.Imm.From, .i c12.Imm.Which, .i c12.Imm.Type_, .i c12.Imm.Wants, .b c12.Imm.Known, .b true, .b c12.HasI, .b c12.Jumps] 0))]⟩] <| Rk <| Sq ?_
  refine Ro <| Rc 2 [⟨.d (.agg [.bool c12.I.Lock, .int .i64 c12.I.Rep, .int .i64 c12.I.Seg, .int .u8 c12.I.Op, .int .i64 c12.I.Mod, .int .i64 c12.I.Reg, .int .i64 c12.I.RM, .int .u16 c12.I.Disp, .int .u16 c12.I.Imm, .int .u16 c12.I.Sel, .int .i64 d11.N, .int .i64 d11.From, .int .i64 d11.Which, .int .i64 d11.Type_, .int .i64 d11.Wants, .bool d11.Known, .int .i64 c12.Imm.N, .int .i64 c12.Imm.From, .int .i64 c12.Imm.Which, .int .i64 c12.Imm.Type_, .int .i64 c12.Imm.Wants, .bool c12.Imm.Known, .bool true, .bool c12.HasI, .bool c12.Jumps]), []⟩, vi off18] ?_
  obtain ⟨r_13, hr_13, h⟩ := bind_s h
  have hc_13 := emit_Inst_L ({ c12 with Disp := d11, HasD := true } : Choice) 1 off18 2 4 r_13 hr_13
  refine Rt (some 269) (.callf 14) [] none [.d (.agg [.bool c12.I.Lock, .int .i64 c12.I.Rep, .int .i64 c12.I.Seg, .int .u8 c12.I.Op, .int .i64 c12.I.Mod, .int .i64 c12.I.Reg, .int .i64 c12.I.RM, .int .u16 c12.I.Disp, .int .u16 c12.I.Imm, .int .u16 c12.I.Sel, .int .i64 d11.N, .int .i64 d11.From, .int .i64 d11.Which, .int .i64 d11.Type_, .int .i64 d11.Wants, .bool d11.Known, .int .i64 c12.Imm.N, .int .i64 c12.Imm.From, .int .i64 c12.Imm.Which, .int .i64 c12.Imm.Type_, .int .i64 c12.Imm.Wants, .bool c12.Imm.Known, .bool true, .bool c12.HasI, .bool c12.Jumps]), .i 1, .i off18, .i 2, .i 4] (.tup [.d (.sl (mY r_13.1)), .d (.sl (List.map Fixup.d r_13.2.1)), .b r_13.2.2]) [] (cc hc_13) <| Rc 7 [⟨.tup [.d (.sl (mY r_13.1)), .d (.sl (List.map Fixup.d r_13.2.1)), .b r_13.2.2], []⟩, ⟨.d (.sl (mY r_13.1)), []⟩, ⟨.d (.sl (List.map Fixup.d r_13.2.1)), []⟩, vb r_13.2.2, ⟨.d (.sl (mY r_13.1)), []⟩, ⟨.d (.sl (List.map Fixup.d r_13.2.1)), []⟩, vb r_13.2.2] <| Rk <| Sq <| Ro ?_
  obtain ⟨r_14, hr_14, h⟩ := bind_s h
  have hc_14 := hansomlaw37_awake_L r_14 hr_14
  refine Rt (some 273) (.callf 16) [] none [] (.b r_14) [] (cc hc_14) <| Rc 1 [vb r_14] ?_
  cases hb_30 : (r_14 : Bool) with
  | true =>
   replace h := ite_t hb_30 h
   refine Rc 3 [vb r_13.2.2, vb r_13.2.2, vb r_13.2.2] ?_
   cases hb_31 : (r_13.2.2 : Bool) with
   | true =>
    replace h := ite_t hb_31 h
    refine Rc 1 [⟨.d (.sl (mY r_13.1)), []⟩] <| Rt (some 279) .lenL [] none [.d (.sl (mY r_13.1))] (.i (r_13.1.length : Int)) [] (cut_len _) <| Rc 1 [⟨.d (.sl (mY b10)), []⟩] <| Rt (some 281) .lenL [] none [.d (.sl (mY b10))] (.i (b10.length : Int)) [] (cut_len _) <| Rc 3 [vb ((r_13.1.length : Int) == (b10.length : Int)), vb ((r_13.1.length : Int) == (b10.length : Int)), vb ((r_13.1.length : Int) == (b10.length : Int))] ?_
    cases hb_32 : (((r_13.1.length : Int) == (b10.length : Int)) : Bool) with
    | true =>
     replace h := ite_t hb_32 h
     refine Rc 3 [⟨.d (.sl (mY r_13.1)), []⟩, vi tail17, vi (IntKind.wrap .i64 (tail17 - 1))] ?_
     obtain ⟨z_7, hz_7, h⟩ := bind_s h
     refine Rt (some 288) (.iaddrS 1) [] none [.d (.sl (mY r_13.1)), .i (IntKind.wrap .i64 (tail17 - 1))] (.elt (.int .u8 z_7) 0) [] (cut_at hz_7 (fun _ => rfl)) <| Rc 4 [vy z_7, vb (z_7 == 0), vb (z_7 == 0), vb (z_7 == 0)] ?_
     cases hb_33 : ((z_7 == 0) : Bool) with
     | true =>
      replace h := ite_t hb_33 h
      refine Rc 3 [⟨.d (.sl (mY r_13.1)), []⟩, vi tail17, vi (IntKind.wrap .i64 (tail17 - 2))] ?_
      obtain ⟨z_8, hz_8, h⟩ := bind_s h
      refine Rt (some 296) (.iaddrS 1) [] none [.d (.sl (mY r_13.1)), .i (IntKind.wrap .i64 (tail17 - 2))] (.elt (.int .u8 z_8) 0) [] (cut_at hz_8 (fun _ => rfl)) <| Rc 4 [vy z_8, vb (z_8 == 0), vb (z_8 == 0), vb (z_8 == 0)] ?_
      cases hb_34 : ((z_8 == 0) : Bool) with
      | true =>
       replace h := ite_t hb_34 h
       refine Rc 1 [⟨.d (.sl (List.map Fixup.d r_13.2.1)), []⟩] <| Rt (some 302) .lenL [] none [.d (.sl (List.map Fixup.d r_13.2.1))] (.i (r_13.2.1.length : Int)) [] (cut_len _) <| Rc 3 [vb ((r_13.2.1.length : Int) == 1), vb ((r_13.2.1.length : Int) == 1), vb ((r_13.2.1.length : Int) == 1)] ?_
       cases hb_35 : (((r_13.2.1.length : Int) == 1) : Bool) with
       | true =>
        replace h := ite_t hb_35 h
        refine Rc 1 [⟨.d (.sl (List.map Fixup.d r_13.2.1)), []⟩] ?_
        obtain ⟨z_9, hz_9, h⟩ := bind_s h
        refine Rt (some 307) (.iaddrS 8) [] none [.d (.sl (List.map Fixup.d r_13.2.1)), .i 0] (.elt (Fixup.d z_9) 0) [] (cut_at hz_9 (fun _ => rfl)) <| Rc 9 [⟨.d (Fixup.d z_9), []⟩, vi tail17, vi (IntKind.wrap .i64 (tail17 - 2)), vi n2, vw (IntKind.wrap .u16 n2), ⟨.d (.agg [.int .i64 (IntKind.wrap .i64 (tail17 - 2)), .int .i64 1, .bool false, .int .i64 1, .int .i64 4, .int .i64 0, .int .i64 2, .int .u16 (IntKind.wrap .u16 n2)]), []⟩, vb (z_9.At == (IntKind.wrap .i64 (tail17 - 2)) && (z_9.Loc == 1 && (z_9.Self == false && (z_9.Frame == 1 && (z_9.FrameN == 4 && (z_9.Target == 0 && (z_9.N == 2 && (z_9.Disp == (IntKind.wrap .u16 n2) && true)))))))), vb (z_9.At == (IntKind.wrap .i64 (tail17 - 2)) && (z_9.Loc == 1 && (z_9.Self == false && (z_9.Frame == 1 && (z_9.FrameN == 4 && (z_9.Target == 0 && (z_9.N == 2 && (z_9.Disp == (IntKind.wrap .u16 n2) && true)))))))), vb (z_9.At == (IntKind.wrap .i64 (tail17 - 2)) && (z_9.Loc == 1 && (z_9.Self == false && (z_9.Frame == 1 && (z_9.FrameN == 4 && (z_9.Target == 0 && (z_9.N == 2 && (z_9.Disp == (IntKind.wrap .u16 n2) && true))))))))] <| Rk <| Runs.ret <| kB_ret <| kS_ret ?_
        cases h
        exact Fq
       | false =>
        replace h := ite_f hb_35 h
        refine Rc 11 [vn, vn, vn, vn, vn, vn, vn, vn, vn, vb false, vb false] <| Rk <| Runs.ret <| kB_ret <| kS_ret ?_
        cases h
        exact Fq
      | false =>
       replace h := ite_f hb_34 h
       refine Rc 16 [vn, vn, vn, vb false, vb false, vn, vn, vn, vn, vn, vn, vn, vn, vn, vb false, vb false] <| Rk <| Runs.ret <| kB_ret <| kS_ret ?_
       cases h
       exact Fq
     | false =>
      replace h := ite_f hb_33 h
      refine Rc 24 [vn, vn, vn, vn, vn, vn, vb false, vb false, vn, vn, vn, vb false, vb false, vn, vn, vn, vn, vn, vn, vn, vn, vn, vb false, vb false] <| Rk <| Runs.ret <| kB_ret <| kS_ret ?_
      cases h
      exact Fq
    | false =>
     replace h := ite_f hb_32 h
     refine Rc 32 [vn, vn, vn, vn, vn, vn, vb false, vb false, vn, vn, vn, vn, vn, vn, vb false, vb false, vn, vn, vn, vb false, vb false, vn, vn, vn, vn, vn, vn, vn, vn, vn, vb false, vb false] <| Rk <| Runs.ret <| kB_ret <| kS_ret ?_
     cases h
     exact Fq
   | false =>
    replace h := ite_f hb_31 h
    refine Rc 39 [vn, vn, vn, vn, vn, vb false, vb false, vn, vn, vn, vn, vn, vn, vb false, vb false, vn, vn, vn, vn, vn, vn, vb false, vb false, vn, vn, vn, vb false, vb false, vn, vn, vn, vn, vn, vn, vn, vn, vn, vb false, vb false] <| Rk <| Runs.ret <| kB_ret <| kS_ret ?_
    cases h
    exact Fq
  | false =>
   replace h := ite_f hb_30 h
   refine Rc 42 [vn, vb false, vb false, vn, vn, vn, vn, vn, vb false, vb false, vn, vn, vn, vn, vn, vn, vb false, vb false, vn, vn, vn, vn, vn, vn, vb false, vb false, vn, vn, vn, vb false, vb false, vn, vn, vn, vn, vn, vn, vn, vn, vn, vb false, vb false] <| Rk <| Runs.ret <| kB_ret <| kS_ret ?_
   cases h
   exact Fq
 | false =>
  replace h := ite_f hb_29 h
  refine Cf <| Sq <| Ro <| Rc 4 [vp [8] 0 1, vi r8.A, vb (r8.A == 7), vb (r8.A == 7)] ?_
  cases hb_36 : ((r8.A == 7) : Bool) with
  | true =>
   replace h := ite_t hb_36 h
   refine Rc 5 [vn, vn, vn, vb true, vb true] <| Rk <| Runs.canon (hansomlaw37_EmitInst_h78 d11 c12 n2 tail17 off18 true) Cz ?_
   exact hansomlaw37_EmitInst_j78_ok x_ at_ n_ d11 c12 n2 tail17 off18 true r h
  | false =>
   replace h := ite_f hb_36 h
   refine Rc 5 [vp [8] 0 2, vi r8.B, vb (r8.B == 7), vb (r8.B == 7), vb (r8.B == 7)] <| Rk <| Runs.canon (hansomlaw37_EmitInst_h78 d11 c12 n2 tail17 off18 (r8.B == 7)) Cz ?_
   exact hansomlaw37_EmitInst_j78_ok x_ at_ n_ d11 c12 n2 tail17 off18 (r8.B == 7) r h
theorem hansomlaw37_EmitInst_j32_ok (x_ : Inst) (at_ : Int) (n_ : Int) (i7 : Inst) (r8 : Row) (d11 : api_Value) (c12 : Choice) (n2 : Int) (b10 : (List Int)) (imms16 : Int) (tail17 : Int) (off18 : Int) (t86 : Bool) (r : Bool) (h : hansomlaw37_EmitInst_j32 i7 r8 d11 c12 n2 b10 imms16 tail17 off18 t86 = some r) : Runs L F6b32 (hansomlaw37_EmitInst_h32 i7 r8 d11 c12 n2 b10 imms16 tail17 off18 t86) (kB 0 (kS L F6c97 (hansomlaw37_EmitInst_Q x_ at_ n_ r))) := by
 unfold hansomlaw37_EmitInst_j32 at h
 cases hb_5 : (t86 : Bool) with
 | true =>
  replace h := ite_t hb_5 h
  refine Ct <| Sq <| Ro <| Rc 12 [vi off18, vi n2, vi (bitsOp .and .i64 n2 1023), vi (IntKind.wrap .i64 (off18 + (bitsOp .and .i64 n2 1023))), vi (IntKind.wrap .i64 ((IntKind.wrap .i64 (off18 + (bitsOp .and .i64 n2 1023))) - 512)), ⟨.d (.agg [.int .i64 (IntKind.wrap .i64 ((IntKind.wrap .i64 (off18 + (bitsOp .and .i64 n2 1023))) - 512)), .int .i64 1, .int .i64 1, .int .i64 0, .int .i64 0, .bool true]), []⟩, vp [12] 0 24, ⟨.tup [], [([12], some (.cells [.b c12.I.Lock, .i c12.I.Rep, .i c12.I.Seg, .y c12.I.Op, .i c12.I.Mod, .i c12.I.Reg, .i c12.I.RM, .w c12.I.Disp, .w c12.I.Imm, .w c12.I.Sel, .i c12.Disp.N, .i c12.Disp.From, .i c12.Disp.Which, .i c12.Disp.Type_, .i c12.Disp.Wants, .b c12.Disp.Known, .i c12.Imm.N, .i c12.Imm.From, .i c12.Imm.Which, .i c12.Imm.Type_, .i c12.Imm.Wants, .b c12.Imm.Known, .b c12.HasD, .b c12.HasI, .b true] 0))]⟩, vp [12] 0 23, ⟨.tup [], [([12], some (.cells [.b c12.I.Lock, .i c12.I.Rep, .i c12.I.Seg, .y c12.I.Op, .i c12.I.Mod, .i c12.I.Reg, .i c12.I.RM, .w c12.I.Disp, .w c12.I.Imm, .w c12.I.Sel, .i c12.Disp.N, .i c12.Disp.From, .i c12.Disp.Which, .i c12.Disp.Type_, .i c12.Disp.Wants, .b c12.Disp.Known, .i c12.Imm.N, .i c12.Imm.From, .i c12.Imm.Which, .i c12.Imm.Type_, .i c12.Imm.Wants, .b c12.Imm.Known, .b c12.HasD, .b true, .b true] 0))]⟩, vp [12] 0 16, ⟨.tup [], [([12], some (.cells [.b c12.I.Lock, .i c12.I.Rep, .i c12.I.Seg, .y c12.I.Op, .i c12.I.Mod, .i c12.I.Reg, .i c12.I.RM, .w c12.I.Disp, .w c12.I.Imm, .w c12.I.Sel, .i c12.Disp.N, .i c12.Disp.From, .i c12.Disp.Which, .i c12.Disp.Type_, .i c12.Disp.Wants, .b c12.Disp.Known, .i (IntKind.wrap .i64 ((IntKind.wrap .i64 (off18 + (bitsOp .and .i64 n2 1023))) - 512)), .i 1, .i 1, .i 0, .i 0, .b true, .b c12.HasD, .b true, .b true] 0))]⟩] ?_
  refine Rk <| Sq <| Ro <| Rc 6 [vp [12] 0 16, vp [12] 0 16, vi (IntKind.wrap .i64 ((IntKind.wrap .i64 (off18 + (bitsOp .and .i64 n2 1023))) - 512)), vi off18, vi (IntKind.wrap .i64 ((IntKind.wrap .i64 ((IntKind.wrap .i64 (off18 + (bitsOp .and .i64 n2 1023))) - 512)) - off18)), ⟨.d (.sl (mY b10)), []⟩] <| Rt (some 110) .lenL [] none [.d (.sl (mY b10))] (.i (b10.length : Int)) [] (cut_len _) <| Rc 2 [vi (IntKind.wrap .i64 ((IntKind.wrap .i64 ((IntKind.wrap .i64 ((IntKind.wrap .i64 (off18 + (bitsOp .and .i64 n2 1023))) - 512)) - off18)) - (b10.length : Int))), vi (IntKind.wrap .i64 ((IntKind.wrap .i64 ((IntKind.wrap .i64 ((IntKind.wrap .i64 (off18 + (bitsOp .and .i64 n2 1023))) - 512)) - off18)) - (b10.length : Int)))] <| Rk <| Sq <| Ro <| Rc 2 [⟨.d (.agg [.bool c12.I.Lock, .int .i64 c12.I.Rep, .int .i64 c12.I.Seg, .int .u8 c12.I.Op, .int .i64 c12.I.Mod, .int .i64 c12.I.Reg, .int .i64 c12.I.RM, .int .u16 c12.I.Disp, .int .u16 c12.I.Imm, .int .u16 c12.I.Sel, .int .i64 c12.Disp.N, .int .i64 c12.Disp.From, .int .i64 c12.Disp.Which, .int .i64 c12.Disp.Type_, .int .i64 c12.Disp.Wants, .bool c12.Disp.Known, .int .i64 (IntKind.wrap .i64 ((IntKind.wrap .i64 (off18 + (bitsOp .and .i64 n2 1023))) - 512)), .int .i64 1, .int .i64 1, .int .i64 0, .int .i64 0, .bool true, .bool c12.HasD, .bool true, .bool true]), []⟩, vi off18] ?_
  obtain ⟨r_6, hr_6, h⟩ := bind_s h
  have hc_6 := emit_Inst_L ({ I := c12.I, Disp := c12.Disp, Imm := ({ N := (IntKind.wrap .i64 ((IntKind.wrap .i64 (off18 + (bitsOp .and .i64 n2 1023))) - 512)), From := 1, Which := 1, Type_ := 0, Wants := 0, Known := true } : api_Value), HasD := c12.HasD, HasI := true, Jumps := true } : Choice) 1 off18 0 0 r_6 hr_6
  refine Rt (some 115) (.callf 14) [] none [.d (.agg [.bool c12.I.Lock, .int .i64 c12.I.Rep, .int .i64 c12.I.Seg, .int .u8 c12.I.Op, .int .i64 c12.I.Mod, .int .i64 c12.I.Reg, .int .i64 c12.I.RM, .int .u16 c12.I.Disp, .int .u16 c12.I.Imm, .int .u16 c12.I.Sel, .int .i64 c12.Disp.N, .int .i64 c12.Disp.From, .int .i64 c12.Disp.Which, .int .i64 c12.Disp.Type_, .int .i64 c12.Disp.Wants, .bool c12.Disp.Known, .int .i64 (IntKind.wrap .i64 ((IntKind.wrap .i64 (off18 + (bitsOp .and .i64 n2 1023))) - 512)), .int .i64 1, .int .i64 1, .int .i64 0, .int .i64 0, .bool true, .bool c12.HasD, .bool true, .bool true]), .i 1, .i off18, .i 0, .i 0] (.tup [.d (.sl (mY r_6.1)), .d (.sl (List.map Fixup.d r_6.2.1)), .b r_6.2.2]) [] (cc hc_6) <| Rc 7 [⟨.tup [.d (.sl (mY r_6.1)), .d (.sl (List.map Fixup.d r_6.2.1)), .b r_6.2.2], []⟩, ⟨.d (.sl (mY r_6.1)), []⟩, ⟨.d (.sl (List.map Fixup.d r_6.2.1)), []⟩, vb r_6.2.2, ⟨.d (.sl (mY r_6.1)), []⟩, ⟨.d (.sl (List.map Fixup.d r_6.2.1)), []⟩, vb r_6.2.2] <| Rk <| Sq <| Sq <| Ro <| Rc 4 [vp [8] 0 1, vi r8.A, vb (r8.A == 9), vb (r8.A == 9)] ?_
  cases hb_6 : ((r8.A == 9) : Bool) with
  | true =>
   replace h := ite_t hb_6 h
   refine Rc 3 [vi (IntKind.wrap .i64 ((IntKind.wrap .i64 ((IntKind.wrap .i64 ((IntKind.wrap .i64 (off18 + (bitsOp .and .i64 n2 1023))) - 512)) - off18)) - (b10.length : Int))), vb (decide ((IntKind.wrap .i64 ((IntKind.wrap .i64 ((IntKind.wrap .i64 ((IntKind.wrap .i64 (off18 + (bitsOp .and .i64 n2 1023))) - 512)) - off18)) - (b10.length : Int))) < (-128))), vb (decide ((IntKind.wrap .i64 ((IntKind.wrap .i64 ((IntKind.wrap .i64 ((IntKind.wrap .i64 (off18 + (bitsOp .and .i64 n2 1023))) - 512)) - off18)) - (b10.length : Int))) < (-128)))] ?_
   cases hb_7 : ((decide ((IntKind.wrap .i64 ((IntKind.wrap .i64 ((IntKind.wrap .i64 ((IntKind.wrap .i64 (off18 + (bitsOp .and .i64 n2 1023))) - 512)) - off18)) - (b10.length : Int))) < (-128))) : Bool) with
   | true =>
    replace h := ite_t hb_7 h
    refine Rc 4 [vn, vn, vb true, vb true] <| Rk <| Ct <| Sq <| Ro ?_
    obtain ⟨r_7, hr_7, h⟩ := bind_s h
    have hc_7 := hansomlaw37_awake_L r_7 hr_7
    refine Rt (some 130) (.callf 16) [] none [] (.b r_7) [] (cc hc_7) <| Rc 1 [vb r_7] ?_
    cases hb_8 : (r_7 : Bool) with
    | true =>
     replace h := ite_t hb_8 h
     refine Rc 4 [vb r_6.2.2, vb (!r_6.2.2), vb (!r_6.2.2), vb (!r_6.2.2)] ?_
     cases hb_9 : ((!r_6.2.2) : Bool) with
     | true =>
      replace h := ite_t hb_9 h
      refine Rc 1 [⟨.d (.sl (mY r_6.1)), []⟩] <| Rt (some 137) .lenL [] none [.d (.sl (mY r_6.1))] (.i (r_6.1.length : Int)) [] (cut_len _) <| Rc 3 [vb ((r_6.1.length : Int) == 0), vb ((r_6.1.length : Int) == 0), vb ((r_6.1.length : Int) == 0)] <| Rk <| Runs.ret <| kS_ret <| kB_ret <| kS_ret ?_
      cases h
      exact Fq
     | false =>
      replace h := ite_f hb_9 h
      refine Rc 5 [vn, vn, vn, vb false, vb false] <| Rk <| Runs.ret <| kS_ret <| kB_ret <| kS_ret ?_
      cases h
      exact Fq
    | false =>
     replace h := ite_f hb_8 h
     refine Rc 9 [vn, vn, vb false, vb false, vn, vn, vn, vb false, vb false] <| Rk <| Runs.ret <| kS_ret <| kB_ret <| kS_ret ?_
     cases h
     exact Fq
   | false =>
    replace h := ite_f hb_7 h
    refine Rc 4 [vi (IntKind.wrap .i64 ((IntKind.wrap .i64 ((IntKind.wrap .i64 ((IntKind.wrap .i64 (off18 + (bitsOp .and .i64 n2 1023))) - 512)) - off18)) - (b10.length : Int))), vb (decide ((IntKind.wrap .i64 ((IntKind.wrap .i64 ((IntKind.wrap .i64 ((IntKind.wrap .i64 (off18 + (bitsOp .and .i64 n2 1023))) - 512)) - off18)) - (b10.length : Int))) > 127)), vb (decide ((IntKind.wrap .i64 ((IntKind.wrap .i64 ((IntKind.wrap .i64 ((IntKind.wrap .i64 (off18 + (bitsOp .and .i64 n2 1023))) - 512)) - off18)) - (b10.length : Int))) > 127)), vb (decide ((IntKind.wrap .i64 ((IntKind.wrap .i64 ((IntKind.wrap .i64 ((IntKind.wrap .i64 (off18 + (bitsOp .and .i64 n2 1023))) - 512)) - off18)) - (b10.length : Int))) > 127))] <| Rk ?_
    cases hb_10 : ((decide ((IntKind.wrap .i64 ((IntKind.wrap .i64 ((IntKind.wrap .i64 ((IntKind.wrap .i64 (off18 + (bitsOp .and .i64 n2 1023))) - 512)) - off18)) - (b10.length : Int))) > 127)) : Bool) with
    | true =>
     replace h := ite_t hb_10 h
     refine Ct <| Sq <| Ro ?_
     obtain ⟨r_8, hr_8, h⟩ := bind_s h
     have hc_8 := hansomlaw37_awake_L r_8 hr_8
     refine Rt (some 130) (.callf 16) [] none [] (.b r_8) [] (cc hc_8) <| Rc 1 [vb r_8] ?_
     cases hb_11 : (r_8 : Bool) with
     | true =>
      replace h := ite_t hb_11 h
      refine Rc 4 [vb r_6.2.2, vb (!r_6.2.2), vb (!r_6.2.2), vb (!r_6.2.2)] ?_
      cases hb_12 : ((!r_6.2.2) : Bool) with
      | true =>
       replace h := ite_t hb_12 h
       refine Rc 1 [⟨.d (.sl (mY r_6.1)), []⟩] <| Rt (some 137) .lenL [] none [.d (.sl (mY r_6.1))] (.i (r_6.1.length : Int)) [] (cut_len _) <| Rc 3 [vb ((r_6.1.length : Int) == 0), vb ((r_6.1.length : Int) == 0), vb ((r_6.1.length : Int) == 0)] <| Rk <| Runs.ret <| kS_ret <| kB_ret <| kS_ret ?_
       cases h
       exact Fq
      | false =>
       replace h := ite_f hb_12 h
       refine Rc 5 [vn, vn, vn, vb false, vb false] <| Rk <| Runs.ret <| kS_ret <| kB_ret <| kS_ret ?_
       cases h
       exact Fq
     | false =>
      replace h := ite_f hb_11 h
      refine Rc 9 [vn, vn, vb false, vb false, vn, vn, vn, vb false, vb false] <| Rk <| Runs.ret <| kS_ret <| kB_ret <| kS_ret ?_
      cases h
      exact Fq
    | false =>
     replace h := ite_f hb_10 h
     refine Cf <| Runs.skip <| kS_nrm <| Runs.canon (hansomlaw37_EmitInst_h47 r8 ({ I := c12.I, Disp := c12.Disp, Imm := ({ N := (IntKind.wrap .i64 ((IntKind.wrap .i64 (off18 + (bitsOp .and .i64 n2 1023))) - 512)), From := 1, Which := 1, Type_ := 0, Wants := 0, Known := true } : api_Value), HasD := c12.HasD, HasI := true, Jumps := true } : Choice) b10 imms16 tail17 off18 (IntKind.wrap .i64 ((IntKind.wrap .i64 ((IntKind.wrap .i64 ((IntKind.wrap .i64 (off18 + (bitsOp .and .i64 n2 1023))) - 512)) - off18)) - (b10.length : Int))) r_6.1 r_6.2.1 r_6.2.2) Cz ?_
     exact hansomlaw37_EmitInst_j47_ok x_ at_ n_ r8 ({ I := c12.I, Disp := c12.Disp, Imm := ({ N := (IntKind.wrap .i64 ((IntKind.wrap .i64 (off18 + (bitsOp .and .i64 n2 1023))) - 512)), From := 1, Which := 1, Type_ := 0, Wants := 0, Known := true } : api_Value), HasD := c12.HasD, HasI := true, Jumps := true } : Choice) b10 imms16 tail17 off18 (IntKind.wrap .i64 ((IntKind.wrap .i64 ((IntKind.wrap .i64 ((IntKind.wrap .i64 (off18 + (bitsOp .and .i64 n2 1023))) - 512)) - off18)) - (b10.length : Int))) r_6.1 r_6.2.1 r_6.2.2 r h
  | false =>
   replace h := ite_f hb_6 h
   refine Rc 7 [vn, vn, vn, vn, vn, vn, vb false] <| Rk <| Cf <| Runs.skip <| kS_nrm <| Runs.canon (hansomlaw37_EmitInst_h47 r8 ({ I := c12.I, Disp := c12.Disp, Imm := ({ N := (IntKind.wrap .i64 ((IntKind.wrap .i64 (off18 + (bitsOp .and .i64 n2 1023))) - 512)), From := 1, Which := 1, Type_ := 0, Wants := 0, Known := true } : api_Value), HasD := c12.HasD, HasI := true, Jumps := true } : Choice) b10 imms16 tail17 off18 (IntKind.wrap .i64 ((IntKind.wrap .i64 ((IntKind.wrap .i64 ((IntKind.wrap .i64 (off18 + (bitsOp .and .i64 n2 1023))) - 512)) - off18)) - (b10.length : Int))) r_6.1 r_6.2.1 r_6.2.2) Cz ?_
   exact hansomlaw37_EmitInst_j47_ok x_ at_ n_ r8 ({ I := c12.I, Disp := c12.Disp, Imm := ({ N := (IntKind.wrap .i64 ((IntKind.wrap .i64 (off18 + (bitsOp .and .i64 n2 1023))) - 512)), From := 1, Which := 1, Type_ := 0, Wants := 0, Known := true } : api_Value), HasD := c12.HasD, HasI := true, Jumps := true } : Choice) b10 imms16 tail17 off18 (IntKind.wrap .i64 ((IntKind.wrap .i64 ((IntKind.wrap .i64 ((IntKind.wrap .i64 (off18 + (bitsOp .and .i64 n2 1023))) - 512)) - off18)) - (b10.length : Int))) r_6.1 r_6.2.1 r_6.2.2 r h
 | false =>
  replace h := ite_f hb_5 h
  refine Cf <| Sq <| Ro <| Rc 3 [vp [8] 0 3, vb r8.Mod, vb r8.Mod] ?_
  cases hb_28 : (r8.Mod : Bool) with
  | true =>
   replace h := ite_t hb_28 h
   refine Rc 4 [vp [7] 0 4, vi i7.Mod, vp [7] 0 6, vi i7.RM] ?_
   obtain ⟨r_12, hr_12, h⟩ := bind_s h
   have hc_12 := hansomref05_Disps_L i7.Mod i7.RM r_12 hr_12
   refine Rt (some 260) (.callf 17) [] none [.i i7.Mod, .i i7.RM] (.i r_12) [] (cc hc_12) <| Rc 3 [vb (r_12 == 2), vb (r_12 == 2), vb (r_12 == 2)] <| Rk <| Runs.canon (hansomlaw37_EmitInst_h68 r8 d11 c12 n2 b10 tail17 off18 (r_12 == 2)) Cz ?_
   exact hansomlaw37_EmitInst_j68_ok x_ at_ n_ r8 d11 c12 n2 b10 tail17 off18 (r_12 == 2) r h
  | false =>
   replace h := ite_f hb_28 h
   refine Rc 8 [vn, vn, vn, vn, vn, vn, vb false, vb false] <| Rk <| Runs.canon (hansomlaw37_EmitInst_h68 r8 d11 c12 n2 b10 tail17 off18 false) Cz ?_
   exact hansomlaw37_EmitInst_j68_ok x_ at_ n_ r8 d11 c12 n2 b10 tail17 off18 false r h
theorem hansomlaw37_EmitInst_ok (x_ : Inst) (at_ : Int) (n_ : Int) (r : Bool) (h : hansomlaw37_EmitInst x_ at_ n_ = some r) : Runs L F6.body ⟨tmOf [.d (Inst.d x_), .i at_, .i n_] 0, updW (fun _ => none) []⟩ (hansomlaw37_EmitInst_Q x_ at_ n_ r) := by
 unfold hansomlaw37_EmitInst at h
 refine Sq <| Ro <| Rc 2 [⟨.ptr [3] 0 0, [([3], some (.cells [.b x_.Lock, .i x_.Rep, .i x_.Seg, .y x_.Op, .i x_.Mod, .i x_.Reg, .i x_.RM, .w x_.Disp, .w x_.Imm, .w x_.Sel] 0))]⟩, vb false] <| Rk <| Sq <| Ro <| Rc 1 [⟨.d (Inst.d x_), []⟩] ?_
 obtain ⟨r_1, hr_1, h⟩ := bind_s h
 have hc_1 := hansomref05_Near_L x_ r_1 hr_1
 refine Rt (some 37) (.callf 7) [] none [.d (Inst.d x_)] (.d (Inst.d r_1)) [] (cc hc_1) <| Rc 2 [⟨.ptr [7] 0 0, [([7], some (.cells [.b false, .i 0, .i 0, .y 0, .i 0, .i 0, .i 0, .w 0, .w 0, .w 0] 0))]⟩, ⟨.tup [], [([7], some (.cells [.b r_1.Lock, .i r_1.Rep, .i r_1.Seg, .y r_1.Op, .i r_1.Mod, .i r_1.Reg, .i r_1.RM, .w r_1.Disp, .w r_1.Imm, .w r_1.Sel] 0))]⟩] <| Rk <| Sq <| Ro <| Rc 1 [⟨.d (Inst.d r_1), []⟩] ?_
 obtain ⟨r_2, hr_2, h⟩ := bind_s h
 have hc_2 := hansomref05_Row_L r_1 r_2 hr_2
 refine Rt (some 40) (.callf 13) [] none [.d (Inst.d r_1)] (.tup [.d (Row.d r_2.1), .b r_2.2]) [] (cc hc_2) <| Rc 6 [⟨.tup [.d (Row.d r_2.1), .b r_2.2], []⟩, ⟨.d (Row.d r_2.1), []⟩, vb r_2.2, ⟨.ptr [8] 0 0, [([8], some (.cells [.i 0, .i 0, .i 0, .b false] 0))]⟩, ⟨.tup [], [([8], some (.cells [.i r_2.1.Name, .i r_2.1.A, .i r_2.1.B, .b r_2.1.Mod] 0))]⟩, vb r_2.2] <| Rk <| Sq <| Ro <| Rc 1 [⟨.d (Inst.d r_1), []⟩] ?_
 obtain ⟨r_3, hr_3, h⟩ := bind_s h
 have hc_3 := hansomref05_Put_L r_1 r_3 hr_3
 refine Rt (some 44) (.callf 11) [] none [.d (Inst.d r_1)] (.d (.sl (mY r_3))) [] (cc hc_3) <| Rc 1 [⟨.d (.sl (mY r_3)), []⟩] <| Rk <| Sq <| Ro <| Rc 5 [vi n_, vi (bitsOp .and .i64 n_ 65535), ⟨.d (.agg [.int .i64 (bitsOp .and .i64 n_ 65535), .int .i64 1, .int .i64 2, .int .i64 0, .int .i64 0, .bool true]), []⟩, ⟨.ptr [11] 0 0, [([11], some (.cells [.i 0, .i 0, .i 0, .i 0, .i 0, .b false] 0))]⟩, ⟨.tup [], [([11], some (.cells [.i (bitsOp .and .i64 n_ 65535), .i 1, .i 2, .i 0, .i 0, .b true] 0))]⟩] <| Rk <| Sq <| Ro <| Rc 12 [⟨.d (Inst.d r_1), []⟩, vp [7] 0 8, vw r_1.Imm, vi (IntKind.wrap .i64 r_1.Imm), ⟨.d (.agg [.int .i64 (IntKind.wrap .i64 r_1.Imm), .int .i64 0, .int .i64 0, .int .i64 0, .int .i64 0, .bool true]), []⟩, vp [7] 0 7, vw r_1.Disp, vi (IntKind.wrap .i64 r_1.Disp), ⟨.d (.agg [.int .i64 (IntKind.wrap .i64 r_1.Disp), .int .i64 0, .int .i64 0, .int .i64 0, .int .i64 0, .bool true]), []⟩, ⟨.d (.agg [.bool r_1.Lock, .int .i64 r_1.Rep, .int .i64 r_1.Seg, .int .u8 r_1.Op, .int .i64 r_1.Mod, .int .i64 r_1.Reg, .int .i64 r_1.RM, .int .u16 r_1.Disp, .int .u16 r_1.Imm, .int .u16 r_1.Sel, .int .i64 (IntKind.wrap .i64 r_1.Disp), .int .i64 0, .int .i64 0, .int .i64 0, .int .i64 0, .bool true, .int .i64 (IntKind.wrap .i64 r_1.Imm), .int .i64 0, .int .i64 0, .int .i64 0, .int .i64 0, .bool true, .bool false, .bool false, .bool false]), []⟩, ⟨.ptr [12] 0 0, [([12], some (.cells [.b false, .i 0, .i 0, .y 0, .i 0, .i 0, .i 0, .w 0, .w 0, .w 0, .i 0, .i 0, .i 0, .i 0, .i 0, .b false, .i 0, .i 0, .i 0, .i 0, .i 0, .b false, .b false, .b false, .b false] 0))]⟩, ⟨.tup [], [([12], some (.cells [.b r_1.Lock, .i r_1.Rep, .i r_1.Seg, .y r_1.Op, .i r_1.Mod, .i r_1.Reg, .i r_1.RM, .w r_1.Disp, .w r_1.Imm, .w r_1.Sel, .i (IntKind.wrap .i64 r_1.Disp), .i 0, .i 0, .i 0, .i 0, .b true, .i (IntKind.wrap .i64 r_1.Imm), .i 0, .i 0, .i 0, .i 0, .b true, .b false, .b false, .b false] 0))]⟩] ?_
 refine Rk <| Sq <| Ro <| Rc 1 [⟨.d (.agg [.bool r_1.Lock, .int .i64 r_1.Rep, .int .i64 r_1.Seg, .int .u8 r_1.Op, .int .i64 r_1.Mod, .int .i64 r_1.Reg, .int .i64 r_1.RM, .int .u16 r_1.Disp, .int .u16 r_1.Imm, .int .u16 r_1.Sel, .int .i64 (IntKind.wrap .i64 r_1.Disp), .int .i64 0, .int .i64 0, .int .i64 0, .int .i64 0, .bool true, .int .i64 (IntKind.wrap .i64 r_1.Imm), .int .i64 0, .int .i64 0, .int .i64 0, .int .i64 0, .bool true, .bool false, .bool false, .bool false]), []⟩] ?_
 obtain ⟨r_4, hr_4, h⟩ := bind_s h
 have hc_4 := emit_Inst_L ({ I := r_1, Disp := ({ N := (IntKind.wrap .i64 r_1.Disp), From := 0, Which := 0, Type_ := 0, Wants := 0, Known := true } : api_Value), Imm := ({ N := (IntKind.wrap .i64 r_1.Imm), From := 0, Which := 0, Type_ := 0, Wants := 0, Known := true } : api_Value), HasD := false, HasI := false, Jumps := false } : Choice) 1 0 0 0 r_4 hr_4
 refine Rt (some 60) (.callf 14) [] none [.d (.agg [.bool r_1.Lock, .int .i64 r_1.Rep, .int .i64 r_1.Seg, .int .u8 r_1.Op, .int .i64 r_1.Mod, .int .i64 r_1.Reg, .int .i64 r_1.RM, .int .u16 r_1.Disp, .int .u16 r_1.Imm, .int .u16 r_1.Sel, .int .i64 (IntKind.wrap .i64 r_1.Disp), .int .i64 0, .int .i64 0, .int .i64 0, .int .i64 0, .bool true, .int .i64 (IntKind.wrap .i64 r_1.Imm), .int .i64 0, .int .i64 0, .int .i64 0, .int .i64 0, .bool true, .bool false, .bool false, .bool false]), .i 1, .i 0, .i 0, .i 0] (.tup [.d (.sl (mY r_4.1)), .d (.sl (List.map Fixup.d r_4.2.1)), .b r_4.2.2]) [] (cc hc_4) <| Rc 7 [⟨.tup [.d (.sl (mY r_4.1)), .d (.sl (List.map Fixup.d r_4.2.1)), .b r_4.2.2], []⟩, ⟨.d (.sl (mY r_4.1)), []⟩, ⟨.d (.sl (List.map Fixup.d r_4.2.1)), []⟩, vb r_4.2.2, ⟨.d (.sl (mY r_4.1)), []⟩, ⟨.d (.sl (List.map Fixup.d r_4.2.1)), []⟩, vb r_4.2.2] <| Rk <| Sq <| Sq <| Ro <| Rc 3 [vb r_4.2.2, vb (!r_4.2.2), vb (!r_4.2.2)] ?_
 cases hb_1 : ((!r_4.2.2) : Bool) with
 | true =>
  replace h := ite_t hb_1 h
  refine Rc 11 [vn, vn, vn, vn, vn, vb true, vb true, vn, vn, vn, vb true] <| Rk <| Ct <| Sq <| Ro <| Rc 1 [vb false] <| Rk <| Runs.ret <| kS_ret ?_
  cases h
  exact Fq
 | false =>
  replace h := ite_f hb_1 h
  refine Rc 1 [⟨.d (.sl (mY r_4.1)), []⟩] <| Rt (some 68) .bytesStr [] none [.d (.sl (mY r_4.1))] (.d (.str (b2s r_4.1))) [] (cut_bs _) <| Rc 1 [⟨.d (.sl (mY r_3)), []⟩] <| Rt (some 70) .bytesStr [] none [.d (.sl (mY r_3))] (.d (.str (b2s r_3))) [] (cut_bs _) <| Rc 3 [vb ((b2s r_4.1) != (b2s r_3)), vb ((b2s r_4.1) != (b2s r_3)), vb ((b2s r_4.1) != (b2s r_3))] ?_
  cases hb_2 : (((b2s r_4.1) != (b2s r_3)) : Bool) with
  | true =>
   replace h := ite_t hb_2 h
   refine Rc 4 [vn, vn, vn, vb true] <| Rk <| Ct <| Sq <| Ro <| Rc 1 [vb false] <| Rk <| Runs.ret <| kS_ret ?_
   cases h
   exact Fq
  | false =>
   replace h := ite_f hb_2 h
   refine Rc 1 [⟨.d (.sl (List.map Fixup.d r_4.2.1)), []⟩] <| Rt (some 75) .lenL [] none [.d (.sl (List.map Fixup.d r_4.2.1))] (.i (r_4.2.1.length : Int)) [] (cut_len _) <| Rc 2 [vb ((r_4.2.1.length : Int) != 0), vb ((r_4.2.1.length : Int) != 0)] <| Rk ?_
   cases hb_3 : (((r_4.2.1.length : Int) != 0) : Bool) with
   | true =>
    replace h := ite_t hb_3 h
    refine Ct <| Sq <| Ro <| Rc 1 [vb false] <| Rk <| Runs.ret <| kS_ret ?_
    cases h
    exact Fq
   | false =>
    replace h := ite_f hb_3 h
    refine Cf <| Runs.skip <| kS_nrm <| Sq <| Ro <| Rc 1 [⟨.d (Row.d r_2.1), []⟩] ?_
    obtain ⟨r_5, hr_5, h⟩ := bind_s h
    have hc_5 := hansomref05_Imms_L r_2.1 r_5 hr_5
    refine Rt (some 79) (.callf 15) [] none [.d (Row.d r_2.1)] (.i r_5) [] (cc hc_5) <| Rc 1 [vi r_5] <| Rk <| Sq <| Ro <| Rc 1 [⟨.d (.sl (mY r_3)), []⟩] <| Rt (some 81) .lenL [] none [.d (.sl (mY r_3))] (.i (r_3.length : Int)) [] (cut_len _) <| Rc 3 [vi r_5, vi (IntKind.wrap .i64 ((r_3.length : Int) - r_5)), vi (IntKind.wrap .i64 ((r_3.length : Int) - r_5))] <| Rk <| Sq <| Ro <| Rc 3 [vi at_, vi (bitsOp .and .i64 at_ 16383), vi (bitsOp .and .i64 at_ 16383)] <| Rk <| Sq <| Runs.block <| Sq <| Ro <| Rc 4 [vp [8] 0 1, vi r_2.1.A, vb (r_2.1.A == 9), vb (r_2.1.A == 9)] ?_
    cases hb_4 : ((r_2.1.A == 9) : Bool) with
    | true =>
     replace h := ite_t hb_4 h
     refine Rc 5 [vn, vn, vn, vb true, vb true] <| Rk <| Runs.canon (hansomlaw37_EmitInst_h32 r_1 r_2.1 ({ N := (bitsOp .and .i64 n_ 65535), From := 1, Which := 2, Type_ := 0, Wants := 0, Known := true } : api_Value) ({ I := r_1, Disp := ({ N := (IntKind.wrap .i64 r_1.Disp), From := 0, Which := 0, Type_ := 0, Wants := 0, Known := true } : api_Value), Imm := ({ N := (IntKind.wrap .i64 r_1.Imm), From := 0, Which := 0, Type_ := 0, Wants := 0, Known := true } : api_Value), HasD := false, HasI := false, Jumps := false } : Choice) n_ r_3 r_5 (IntKind.wrap .i64 ((r_3.length : Int) - r_5)) (bitsOp .and .i64 at_ 16383) true) Cz ?_
     exact hansomlaw37_EmitInst_j32_ok x_ at_ n_ r_1 r_2.1 ({ N := (bitsOp .and .i64 n_ 65535), From := 1, Which := 2, Type_ := 0, Wants := 0, Known := true } : api_Value) ({ I := r_1, Disp := ({ N := (IntKind.wrap .i64 r_1.Disp), From := 0, Which := 0, Type_ := 0, Wants := 0, Known := true } : api_Value), Imm := ({ N := (IntKind.wrap .i64 r_1.Imm), From := 0, Which := 0, Type_ := 0, Wants := 0, Known := true } : api_Value), HasD := false, HasI := false, Jumps := false } : Choice) n_ r_3 r_5 (IntKind.wrap .i64 ((r_3.length : Int) - r_5)) (bitsOp .and .i64 at_ 16383) true r h
    | false =>
     replace h := ite_f hb_4 h
     refine Rc 5 [vp [8] 0 1, vi r_2.1.A, vb (r_2.1.A == 10), vb (r_2.1.A == 10), vb (r_2.1.A == 10)] <| Rk <| Runs.canon (hansomlaw37_EmitInst_h32 r_1 r_2.1 ({ N := (bitsOp .and .i64 n_ 65535), From := 1, Which := 2, Type_ := 0, Wants := 0, Known := true } : api_Value) ({ I := r_1, Disp := ({ N := (IntKind.wrap .i64 r_1.Disp), From := 0, Which := 0, Type_ := 0, Wants := 0, Known := true } : api_Value), Imm := ({ N := (IntKind.wrap .i64 r_1.Imm), From := 0, Which := 0, Type_ := 0, Wants := 0, Known := true } : api_Value), HasD := false, HasI := false, Jumps := false } : Choice) n_ r_3 r_5 (IntKind.wrap .i64 ((r_3.length : Int) - r_5)) (bitsOp .and .i64 at_ 16383) (r_2.1.A == 10)) Cz ?_
     exact hansomlaw37_EmitInst_j32_ok x_ at_ n_ r_1 r_2.1 ({ N := (bitsOp .and .i64 n_ 65535), From := 1, Which := 2, Type_ := 0, Wants := 0, Known := true } : api_Value) ({ I := r_1, Disp := ({ N := (IntKind.wrap .i64 r_1.Disp), From := 0, Which := 0, Type_ := 0, Wants := 0, Known := true } : api_Value), Imm := ({ N := (IntKind.wrap .i64 r_1.Imm), From := 0, Which := 0, Type_ := 0, Wants := 0, Known := true } : api_Value), HasD := false, HasI := false, Jumps := false } : Choice) n_ r_3 r_5 (IntKind.wrap .i64 ((r_3.length : Int) - r_5)) (bitsOp .and .i64 at_ 16383) (r_2.1.A == 10) r h
theorem hansomlaw37_EmitInst_L (x_ : Inst) (at_ : Int) (n_ : Int) (r : Bool) (h : hansomlaw37_EmitInst x_ at_ n_ = some r) : L 6 [.d (Inst.d x_), .i at_, .i n_] = some (.b r, [.d (Inst.d x_), .i at_, .i n_]) := by
 obtain ⟨p, ⟨hne, hf⟩, hr⟩ := hansomlaw37_EmitInst_ok x_ at_ n_ r h
 obtain ⟨k, hk⟩ := run_of (F := F6) (args := [.d (Inst.d x_), .i at_, .i n_]) (ap := [.d (Inst.d x_), .i at_, .i n_]) (bx0 := updW (fun _ => none) []) rfl rfl (by kernel_rfl) ⟨p, ⟨hne, hf⟩, hr⟩
 exact lim_run (k := k) rfl hk
end Go.Es.Emi
