/- The interpreter answers as plain Lean does: part 2. No condition. -/
import Derived.Test.YtikbjljifgadmaaDoorDsoF
import Derived.Test.YtikbjljifgadmaaDoorDsoP
import Derived.KernelRfl
import Derived.Test.YtikbjljifgadmaaDoorDsoS0
set_option linter.unusedVariables false
set_option linter.unusedSimpArgs false
set_option maxRecDepth 100000
set_option maxHeartbeats 4000000
namespace Go.Es.Dso
theorem inst_behind_ok (i_ : Inst) (r_ : Row) (r : Bool) (h : inst_behind i_ r_ = some r) : Runs L F40.body ⟨tmOf [.d (Inst.d i_), .d (Row.d r_)] 0, updW (fun _ => none) []⟩ (inst_behind_Q i_ r_ r) := by
 unfold inst_behind at h
 refine Sq <| Ro <| Rc 3 [⟨.ptr [2] 0 0, [([2], some (.cells [.b i_.Lock, .i i_.Rep, .i i_.Seg, .y i_.Op, .i i_.Mod, .i i_.Reg, .i i_.RM, .w i_.Disp, .w i_.Imm, .w i_.Sel] 0))]⟩, ⟨.ptr [3] 0 0, [([3], some (.cells [.i r_.Name, .i r_.A, .i r_.B, .b r_.Mod] 0))]⟩, vb false] <| Rk <| Sq <| Sq <| Ro <| Rc 6 [vp [3] 0 1, vi r_.A, vp [3] 0 2, vi r_.B, ⟨.d (.agg [.int .i64 r_.A, .int .i64 r_.B]), []⟩, vi 0] <| Rk <| Runs.block ?_
 obtain ⟨e_1, he_1, h⟩ := bind_s h
 refine Runs.loop (fun x : Int => inst_behind_l6 i_ r_ ({ a0 := r_.A, a1 := r_.B } : (A2 Int)) x) (fun (x : Int) (g : Unit) => inst_behind_h6 i_ r_ ({ a0 := r_.A, a1 := r_.B } : (A2 Int)) x) (inst_behind_P6 i_ r_ i_ r_ ({ a0 := r_.A, a1 := r_.B } : (A2 Int))) (fun x g r hr => inst_behind_l6_ok i_ r_ i_ r_ ({ a0 := r_.A, a1 := r_.B } : (A2 Int)) x  r hr) () he_1 Cz ?_
 rintro ⟨o, s⟩ hp
 cases e_1 with
 | inl e_2 =>
  obtain ⟨ho, hf⟩ := hp
  have ho' : o = .ret := ho
  subst ho'
  refine kB_ret <| kS_ret ?_
  obtain rfl := sj h
  exact ⟨Out.ret_ne, hf⟩
 | inr e_3 =>
  obtain ⟨ho, g_1, hk_1⟩ := hp
  have ho' : o = .exit 0 := ho
  subst ho'
  refine kB_hit <| kS_nrm <| Runs.canon _ hk_1 <| Sq <| Ro <| Rc 4 [vp [2] 0 8, vw i_.Imm, vb (i_.Imm == 0), vb (i_.Imm == 0)] ?_
  cases hb_1 : ((i_.Imm == 0) : Bool) with
  | true =>
   replace h := ite_t hb_1 h
   refine Rc 5 [vp [2] 0 9, vw i_.Sel, vb (i_.Sel == 0), vb (i_.Sel == 0), vb (i_.Sel == 0)] <| Rk <| Runs.ret ?_
   cases h
   exact Fq
  | false =>
   replace h := ite_f hb_1 h
   refine Rc 5 [vn, vn, vn, vb false, vb false] <| Rk <| Runs.ret ?_
   cases h
   exact Fq
theorem inst_behind_L (i_ : Inst) (r_ : Row) (r : Bool) (h : inst_behind i_ r_ = some r) : L 40 [.d (Inst.d i_), .d (Row.d r_)] = some (.b r, [.d (Inst.d i_), .d (Row.d r_)]) := by
 obtain ⟨p, ⟨hne, hf⟩, hr⟩ := inst_behind_ok i_ r_ r h
 obtain ⟨k, hk⟩ := run_of (F := F40) (args := [.d (Inst.d i_), .d (Row.d r_)]) (ap := [.d (Inst.d i_), .d (Row.d r_)]) (bx0 := updW (fun _ => none) []) rfl rfl (by kernel_rfl) ⟨p, ⟨hne, hf⟩, hr⟩
 exact lim_run (k := k) rfl hk
def isa_Repeats_h28 (t3 : Int) (t4 : Bool) : St := ⟨tab [(3, .i t3), (4, .b t4)], tabB []⟩
def isa_Repeats_Q (name_ : Int) (r : Int) (p : Out × St) : Prop := (∀ i, p.1 ≠ .exit i) ∧ finF F55 [.i name_] p.2 = some (.i r, [.i name_])
theorem isa_Repeats_j28_ok (name_ : Int) (t3 : Int) (t4 : Bool) (r : Int) (h : isa_Repeats_j28 t3 t4 = some r) : Runs L F55b28 (isa_Repeats_h28 t3 t4) (kB 0 (kS L F55c51 (isa_Repeats_Q name_ r))) := by
 unfold isa_Repeats_j28 at h
 cases hb_2 : (t4 : Bool) with
 | true =>
  replace h := ite_t hb_2 h
  refine Ct <| Sq <| Ro <| Rc 1 [vi 1] <| Rk <| Runs.ret <| kB_ret <| kS_ret ?_
  cases h
  exact Fq
 | false =>
  replace h := ite_f hb_2 h
  refine Cf <| Sq <| Sq <| Ro <| Rc 2 [vb (t3 == 48), vb (t3 == 48)] <| Rk ?_
  cases hb_3 : ((t3 == 48) : Bool) with
  | true =>
   replace h := ite_t hb_3 h
   refine Ct <| Runs.skip <| kS_nrm <| Ct <| Sq <| Ro <| Rc 1 [vi 2] <| Rk <| Runs.ret <| kB_ret <| kS_ret ?_
   cases h
   exact Fq
  | false =>
   replace h := ite_f hb_3 h
   refine Cf <| Sq <| Ro <| Rc 2 [vb (t3 == 49), vb (t3 == 49)] <| Rk ?_
   cases hb_4 : ((t3 == 49) : Bool) with
   | true =>
    replace h := ite_t hb_4 h
    refine Ct <| Runs.skip <| kS_nrm <| Ct <| Sq <| Ro <| Rc 1 [vi 2] <| Rk <| Runs.ret <| kB_ret <| kS_ret ?_
    cases h
    exact Fq
   | false =>
    replace h := ite_f hb_4 h
    refine Cf <| Sq <| Ro <| Rc 2 [vb (t3 == 54), vb (t3 == 54)] <| Rk ?_
    cases hb_5 : ((t3 == 54) : Bool) with
    | true =>
     replace h := ite_t hb_5 h
     refine Ct <| Runs.skip <| kS_nrm <| Ct <| Sq <| Ro <| Rc 1 [vi 2] <| Rk <| Runs.ret <| kB_ret <| kS_ret ?_
     cases h
     exact Fq
    | false =>
     replace h := ite_f hb_5 h
     refine Cf <| Ro <| Rc 2 [vb (t3 == 55), vb (t3 == 55)] <| Rk ?_
     cases hb_6 : ((t3 == 55) : Bool) with
     | true =>
      replace h := ite_t hb_6 h
      refine Ct <| Sq <| Ro <| Rc 1 [vi 2] <| Rk <| Runs.ret <| kB_ret <| kS_ret ?_
      cases h
      exact Fq
     | false =>
      replace h := ite_f hb_6 h
      refine Cf <| Runs.skip <| kB_nrm <| kS_nrm <| Sq <| Ro <| Rc 1 [vi 0] <| Rk <| Runs.ret ?_
      cases h
      exact Fq
theorem isa_Repeats_ok (name_ : Int) (r : Int) (h : isa_Repeats name_ = some r) : Runs L F55.body ⟨tmOf [.i name_] 0, updW (fun _ => none) []⟩ (isa_Repeats_Q name_ r) := by
 unfold isa_Repeats at h
 refine Sq <| Ro <| Rc 1 [vi 0] <| Rk <| Sq <| Sq <| Ro <| Rc 1 [vi name_] <| Rk <| Runs.block <| Sq <| Sq <| Ro <| Rc 2 [vb (name_ == 46), vb (name_ == 46)] <| Rk ?_
 cases hb_1 : ((name_ == 46) : Bool) with
 | true =>
  replace h := ite_t hb_1 h
  refine Ct <| Runs.skip <| kS_nrm <| Runs.canon (isa_Repeats_h28 name_ true) Cz ?_
  exact isa_Repeats_j28_ok name_ name_ true r h
 | false =>
  replace h := ite_f hb_1 h
  refine Cf <| Sq <| Ro <| Rc 2 [vb (name_ == 47), vb (name_ == 47)] <| Rk ?_
  cases hb_7 : ((name_ == 47) : Bool) with
  | true =>
   replace h := ite_t hb_7 h
   refine Ct <| Runs.skip <| kS_nrm <| Runs.canon (isa_Repeats_h28 name_ true) Cz ?_
   exact isa_Repeats_j28_ok name_ name_ true r h
  | false =>
   replace h := ite_f hb_7 h
   refine Cf <| Sq <| Ro <| Rc 2 [vb (name_ == 50), vb (name_ == 50)] <| Rk ?_
   cases hb_8 : ((name_ == 50) : Bool) with
   | true =>
    replace h := ite_t hb_8 h
    refine Ct <| Runs.skip <| kS_nrm <| Runs.canon (isa_Repeats_h28 name_ true) Cz ?_
    exact isa_Repeats_j28_ok name_ name_ true r h
   | false =>
    replace h := ite_f hb_8 h
    refine Cf <| Sq <| Ro <| Rc 2 [vb (name_ == 51), vb (name_ == 51)] <| Rk ?_
    cases hb_9 : ((name_ == 51) : Bool) with
    | true =>
     replace h := ite_t hb_9 h
     refine Ct <| Runs.skip <| kS_nrm <| Runs.canon (isa_Repeats_h28 name_ true) Cz ?_
     exact isa_Repeats_j28_ok name_ name_ true r h
    | false =>
     replace h := ite_f hb_9 h
     refine Cf <| Sq <| Ro <| Rc 2 [vb (name_ == 52), vb (name_ == 52)] <| Rk ?_
     cases hb_10 : ((name_ == 52) : Bool) with
     | true =>
      replace h := ite_t hb_10 h
      refine Ct <| Runs.skip <| kS_nrm <| Runs.canon (isa_Repeats_h28 name_ true) Cz ?_
      exact isa_Repeats_j28_ok name_ name_ true r h
     | false =>
      replace h := ite_f hb_10 h
      refine Cf <| Ro <| Rc 2 [vb (name_ == 53), vb (name_ == 53)] <| Rk <| Runs.canon (isa_Repeats_h28 name_ (name_ == 53)) Cz ?_
      exact isa_Repeats_j28_ok name_ name_ (name_ == 53) r h
theorem isa_Repeats_L (name_ : Int) (r : Int) (h : isa_Repeats name_ = some r) : L 55 [.i name_] = some (.i r, [.i name_]) := by
 obtain ⟨p, ⟨hne, hf⟩, hr⟩ := isa_Repeats_ok name_ r h
 obtain ⟨k, hk⟩ := run_of (F := F55) (args := [.i name_]) (ap := [.i name_]) (bx0 := updW (fun _ => none) []) rfl rfl (by kernel_rfl) ⟨p, ⟨hne, hf⟩, hr⟩
 exact lim_run (k := k) rfl hk
def inst_prefixes_Q (i_ : Inst) (r_ : Row) (r : Bool) (p : Out × St) : Prop := (∀ i, p.1 ≠ .exit i) ∧ finF F41 [.d (Inst.d i_), .d (Row.d r_)] p.2 = some (.b r, [.d (Inst.d i_), .d (Row.d r_)])
theorem inst_prefixes_ok (i_ : Inst) (r_ : Row) (r : Bool) (h : inst_prefixes i_ r_ = some r) : Runs L F41.body ⟨tmOf [.d (Inst.d i_), .d (Row.d r_)] 0, updW (fun _ => none) []⟩ (inst_prefixes_Q i_ r_ r) := by
 unfold inst_prefixes at h
 refine Sq <| Ro <| Rc 3 [⟨.ptr [2] 0 0, [([2], some (.cells [.b i_.Lock, .i i_.Rep, .i i_.Seg, .y i_.Op, .i i_.Mod, .i i_.Reg, .i i_.RM, .w i_.Disp, .w i_.Imm, .w i_.Sel] 0))]⟩, ⟨.ptr [3] 0 0, [([3], some (.cells [.i r_.Name, .i r_.A, .i r_.B, .b r_.Mod] 0))]⟩, vb false] <| Rk <| Sq <| Ro <| Rc 2 [vp [3] 0 0, vi r_.Name] ?_
 obtain ⟨r_1, hr_1, h⟩ := bind_s h
 have hc_1 := isa_Repeats_L r_.Name r_1 hr_1
 refine Rt (some 8) (.callf 55) [] none [.i r_.Name] (.i r_1) [] (cc hc_1) <| Rc 1 [vi r_1] <| Rk <| Sq <| Sq <| Ro <| Rc 2 [vp [2] 0 1, vi i_.Rep] <| Rk <| Runs.block <| Sq <| Ro <| Rc 2 [vb (i_.Rep == 0), vb (i_.Rep == 0)] <| Rk ?_
 cases hb_1 : ((i_.Rep == 0) : Bool) with
 | true =>
  replace h := ite_t hb_1 h
  refine Ct <| Runs.skip <| kB_nrm <| kS_nrm <| Sq <| Ro <| Rc 4 [vp [2] 0 2, vi i_.Seg, vb (decide (i_.Seg ≥ 0)), vb (decide (i_.Seg ≥ 0))] ?_
  cases hb_2 : ((decide (i_.Seg ≥ 0)) : Bool) with
  | true =>
   replace h := ite_t hb_2 h
   refine Rc 5 [vp [2] 0 2, vi i_.Seg, vb (decide (i_.Seg ≤ 4)), vb (decide (i_.Seg ≤ 4)), vb (decide (i_.Seg ≤ 4))] <| Rk <| Runs.ret ?_
   cases h
   exact Fq
  | false =>
   replace h := ite_f hb_2 h
   refine Rc 5 [vn, vn, vn, vb false, vb false] <| Rk <| Runs.ret ?_
   cases h
   exact Fq
 | false =>
  replace h := ite_f hb_1 h
  refine Cf <| Sq <| Ro <| Rc 2 [vb (i_.Rep == 1), vb (i_.Rep == 1)] <| Rk ?_
  cases hb_3 : ((i_.Rep == 1) : Bool) with
  | true =>
   replace h := ite_t hb_3 h
   refine Ct <| Sq <| Ro <| Rc 2 [vi r_1, vb (decide (r_1 < 2))] <| Rk ?_
   cases hb_4 : ((decide (r_1 < 2)) : Bool) with
   | true =>
    replace h := ite_t hb_4 h
    refine Ct <| Sq <| Ro <| Rc 1 [vb false] <| Rk <| Runs.ret <| kB_ret <| kS_ret ?_
    cases h
    exact Fq
   | false =>
    replace h := ite_f hb_4 h
    refine Cf <| Runs.skip <| kB_nrm <| kS_nrm <| Sq <| Ro <| Rc 4 [vp [2] 0 2, vi i_.Seg, vb (decide (i_.Seg ≥ 0)), vb (decide (i_.Seg ≥ 0))] ?_
    cases hb_5 : ((decide (i_.Seg ≥ 0)) : Bool) with
    | true =>
     replace h := ite_t hb_5 h
     refine Rc 5 [vp [2] 0 2, vi i_.Seg, vb (decide (i_.Seg ≤ 4)), vb (decide (i_.Seg ≤ 4)), vb (decide (i_.Seg ≤ 4))] <| Rk <| Runs.ret ?_
     cases h
     exact Fq
    | false =>
     replace h := ite_f hb_5 h
     refine Rc 5 [vn, vn, vn, vb false, vb false] <| Rk <| Runs.ret ?_
     cases h
     exact Fq
  | false =>
   replace h := ite_f hb_3 h
   refine Cf <| Sq <| Ro <| Rc 2 [vb (i_.Rep == 2), vb (i_.Rep == 2)] <| Rk ?_
   cases hb_6 : ((i_.Rep == 2) : Bool) with
   | true =>
    replace h := ite_t hb_6 h
    refine Ct <| Sq <| Ro <| Rc 2 [vi r_1, vb (decide (r_1 < 1))] <| Rk ?_
    cases hb_7 : ((decide (r_1 < 1)) : Bool) with
    | true =>
     replace h := ite_t hb_7 h
     refine Ct <| Sq <| Ro <| Rc 1 [vb false] <| Rk <| Runs.ret <| kB_ret <| kS_ret ?_
     cases h
     exact Fq
    | false =>
     replace h := ite_f hb_7 h
     refine Cf <| Runs.skip <| kB_nrm <| kS_nrm <| Sq <| Ro <| Rc 4 [vp [2] 0 2, vi i_.Seg, vb (decide (i_.Seg ≥ 0)), vb (decide (i_.Seg ≥ 0))] ?_
     cases hb_8 : ((decide (i_.Seg ≥ 0)) : Bool) with
     | true =>
      replace h := ite_t hb_8 h
      refine Rc 5 [vp [2] 0 2, vi i_.Seg, vb (decide (i_.Seg ≤ 4)), vb (decide (i_.Seg ≤ 4)), vb (decide (i_.Seg ≤ 4))] <| Rk <| Runs.ret ?_
      cases h
      exact Fq
     | false =>
      replace h := ite_f hb_8 h
      refine Rc 5 [vn, vn, vn, vb false, vb false] <| Rk <| Runs.ret ?_
      cases h
      exact Fq
   | false =>
    replace h := ite_f hb_6 h
    refine Cf <| Sq <| Ro <| Rc 1 [vb false] <| Rk <| Runs.ret <| kB_ret <| kS_ret ?_
    cases h
    exact Fq
theorem inst_prefixes_L (i_ : Inst) (r_ : Row) (r : Bool) (h : inst_prefixes i_ r_ = some r) : L 41 [.d (Inst.d i_), .d (Row.d r_)] = some (.b r, [.d (Inst.d i_), .d (Row.d r_)]) := by
 obtain ⟨p, ⟨hne, hf⟩, hr⟩ := inst_prefixes_ok i_ r_ r h
 obtain ⟨k, hk⟩ := run_of (F := F41) (args := [.d (Inst.d i_), .d (Row.d r_)]) (ap := [.d (Inst.d i_), .d (Row.d r_)]) (bx0 := updW (fun _ => none) []) rfl rfl (by kernel_rfl) ⟨p, ⟨hne, hf⟩, hr⟩
 exact lim_run (k := k) rfl hk
def inst_May_Q (i_ : Inst) (r : Bool) (p : Out × St) : Prop := (∀ i, p.1 ≠ .exit i) ∧ finF F30 [.d (Inst.d i_)] p.2 = some (.b r, [.d (Inst.d i_)])
theorem inst_May_ok (i_ : Inst) (r : Bool) (h : inst_May i_ = some r) : Runs L F30.body ⟨tmOf [.d (Inst.d i_)] 0, updW (fun _ => none) []⟩ (inst_May_Q i_ r) := by
 unfold inst_May at h
 refine Sq <| Ro <| Rc 2 [⟨.ptr [1] 0 0, [([1], some (.cells [.b i_.Lock, .i i_.Rep, .i i_.Seg, .y i_.Op, .i i_.Mod, .i i_.Reg, .i i_.RM, .w i_.Disp, .w i_.Imm, .w i_.Sel] 0))]⟩, vb false] <| Rk <| Sq <| Ro <| Rc 1 [⟨.d (Inst.d i_), []⟩] ?_
 obtain ⟨r_1, hr_1, h⟩ := bind_s h
 have hc_1 := inst_Row_L i_ r_1 hr_1
 refine Rt (some 7) (.callf 31) [] none [.d (Inst.d i_)] (.tup [.d (Row.d r_1.1), .b r_1.2]) [] (cc hc_1) <| Rc 6 [⟨.tup [.d (Row.d r_1.1), .b r_1.2], []⟩, ⟨.d (Row.d r_1.1), []⟩, vb r_1.2, ⟨.ptr [3] 0 0, [([3], some (.cells [.i 0, .i 0, .i 0, .b false] 0))]⟩, ⟨.tup [], [([3], some (.cells [.i r_1.1.Name, .i r_1.1.A, .i r_1.1.B, .b r_1.1.Mod] 0))]⟩, vb r_1.2] <| Rk <| Sq <| Ro <| Rc 2 [vb r_1.2, vb r_1.2] ?_
 cases hb_1 : (r_1.2 : Bool) with
 | true =>
  replace h := ite_t hb_1 h
  refine Rc 2 [⟨.d (Inst.d i_), []⟩, ⟨.d (Row.d r_1.1), []⟩] ?_
  obtain ⟨r_2, hr_2, h⟩ := bind_s h
  have hc_2 := inst_second_L i_ r_1.1 r_2 hr_2
  refine Rt (some 14) (.callf 39) [] none [.d (Inst.d i_), .d (Row.d r_1.1)] (.b r_2) [] (cc hc_2) <| Rc 2 [vb r_2, vb r_2] ?_
  cases hb_2 : (r_2 : Bool) with
  | true =>
   replace h := ite_t hb_2 h
   refine Rc 2 [⟨.d (Inst.d i_), []⟩, ⟨.d (Row.d r_1.1), []⟩] ?_
   obtain ⟨r_3, hr_3, h⟩ := bind_s h
   have hc_3 := inst_behind_L i_ r_1.1 r_3 hr_3
   refine Rt (some 19) (.callf 40) [] none [.d (Inst.d i_), .d (Row.d r_1.1)] (.b r_3) [] (cc hc_3) <| Rc 2 [vb r_3, vb r_3] ?_
   cases hb_3 : (r_3 : Bool) with
   | true =>
    replace h := ite_t hb_3 h
    refine Rc 2 [⟨.d (Inst.d i_), []⟩, ⟨.d (Row.d r_1.1), []⟩] ?_
    obtain ⟨r_4, hr_4, h⟩ := bind_s h
    have hc_4 := inst_prefixes_L i_ r_1.1 r_4 hr_4
    refine Rt (some 24) (.callf 41) [] none [.d (Inst.d i_), .d (Row.d r_1.1)] (.b r_4) [] (cc hc_4) <| Rc 2 [vb r_4, vb r_4] <| Rk <| Runs.ret ?_
    cases h
    exact Fq
   | false =>
    replace h := ite_f hb_3 h
    refine Rc 5 [vn, vn, vn, vb false, vb false] <| Rk <| Runs.ret ?_
    cases h
    exact Fq
  | false =>
   replace h := ite_f hb_2 h
   refine Rc 10 [vn, vn, vn, vb false, vb false, vn, vn, vn, vb false, vb false] <| Rk <| Runs.ret ?_
   cases h
   exact Fq
 | false =>
  replace h := ite_f hb_1 h
  refine Rc 15 [vn, vn, vn, vb false, vb false, vn, vn, vn, vb false, vb false, vn, vn, vn, vb false, vb false] <| Rk <| Runs.ret ?_
  cases h
  exact Fq
theorem inst_May_L (i_ : Inst) (r : Bool) (h : inst_May i_ = some r) : L 30 [.d (Inst.d i_)] = some (.b r, [.d (Inst.d i_)]) := by
 obtain ⟨p, ⟨hne, hf⟩, hr⟩ := inst_May_ok i_ r h
 obtain ⟨k, hk⟩ := run_of (F := F30) (args := [.d (Inst.d i_)]) (ap := [.d (Inst.d i_)]) (bx0 := updW (fun _ => none) []) rfl rfl (by kernel_rfl) ⟨p, ⟨hne, hf⟩, hr⟩
 exact lim_run (k := k) rfl hk
def disp_nth_Q (all_ : (List UInt8)) (n_ : Int) (r : (List UInt8)) (p : Out × St) : Prop := (∀ i, p.1 ≠ .exit i) ∧ finF F20 [.d (.str all_), .i n_] p.2 = some (.d (.str r), [.d (.str all_), .i n_])
theorem disp_nth_ok (all_ : (List UInt8)) (n_ : Int) (r : (List UInt8)) (h : disp_nth all_ n_ = some r) : Runs L F20.body ⟨tmOf [.d (.str all_), .i n_] 0, updW (fun _ => none) []⟩ (disp_nth_Q all_ n_ r) := by
 unfold disp_nth at h
 refine Sq <| Ro <| Rc 1 [⟨.d (.str ([] : List UInt8)), []⟩] <| Rk <| Sq <| Ro <| Rc 1 [⟨.d (.str all_), []⟩] ?_
 obtain ⟨r_1, hr_1, h⟩ := bind_s h
 have hc_1 := strings_Fields_L all_ r_1 hr_1
 refine Rt (some 7) (.callf 19) [] none [.d (.str all_)] (.ref [7] 0 0 (List.map D.str r_1).length 1) [([7], some (.arr (List.map D.str r_1) 0 false))] (cut_call (call_of (ws := []) (us := []) (by kernel_rfl) (gives_cons (ws := []) (give_same (by kernel_rfl)) gives_nil) hc_1 (by kernel_rfl) (by kernel_rfl))) <| Rc 1 [⟨.ref [7] 0 0 (List.map D.str r_1).length 1, []⟩] <| Rk <| Sq <| Sq <| Ro <| Rc 3 [vi n_, vb (decide (n_ < 0)), vb (decide (n_ < 0))] ?_
 cases hb_1 : ((decide (n_ < 0)) : Bool) with
 | true =>
  replace h := ite_t hb_1 h
  refine Rc 5 [vn, vn, vn, vn, vb true] <| Rk <| Ct <| Sq <| Ro <| Rc 1 [⟨.d (.str ([63] : List UInt8)), []⟩] <| Rk <| Runs.ret <| kS_ret ?_
  cases h
  exact Fq
 | false =>
  replace h := ite_f hb_1 h
  refine Rc 2 [vi n_, ⟨.ref [7] 0 0 (List.map D.str r_1).length 1, []⟩] <| Rt (some 13) .lenL [] none [.ref [7] 0 0 (List.map D.str r_1).length 1] (.i (r_1.length : Int)) [] (cut_lenR (e := D.str) r_1 rfl) <| Rc 2 [vb (decide (n_ ≥ (r_1.length : Int))), vb (decide (n_ ≥ (r_1.length : Int)))] <| Rk ?_
  cases hb_2 : ((decide (n_ ≥ (r_1.length : Int))) : Bool) with
  | true =>
   replace h := ite_t hb_2 h
   refine Ct <| Sq <| Ro <| Rc 1 [⟨.d (.str ([63] : List UInt8)), []⟩] <| Rk <| Runs.ret <| kS_ret ?_
   cases h
   exact Fq
  | false =>
   replace h := ite_f hb_2 h
   refine Cf <| Runs.skip <| kS_nrm <| Sq <| Ro <| Rc 2 [⟨.ref [7] 0 0 (List.map D.str r_1).length 1, []⟩, vi n_] ?_
   obtain ⟨z_1, hz_1, h⟩ := bind_s h
   refine Rt (some 18) (.iaddrS 1) [] none [.ref [7] 0 0 (List.map D.str r_1).length 1, .i n_] (.eref [7] 0 (0 + (n_).toNat) 0) [] (cut_atR (e := D.str) (l := r_1) hz_1 rfl) <| Rt (some 19) (.load none) [] none [.eref [7] 0 (0 + (n_).toNat) 0] (.d (.str z_1)) [] (cut_loadR (e := D.str) (l := r_1) (fz := false) (y := z_1) (by kernel_rfl) hz_1 (by kernel_rfl) (by kernel_rfl)) <| Rc 1 [⟨.d (.str z_1), []⟩] <| Rk <| Runs.ret ?_
   cases h
   exact Fq
theorem disp_nth_L (all_ : (List UInt8)) (n_ : Int) (r : (List UInt8)) (h : disp_nth all_ n_ = some r) : L 20 [.d (.str all_), .i n_] = some (.d (.str r), [.d (.str all_), .i n_]) := by
 obtain ⟨p, ⟨hne, hf⟩, hr⟩ := disp_nth_ok all_ n_ r h
 obtain ⟨k, hk⟩ := run_of (F := F20) (args := [.d (.str all_), .i n_]) (ap := [.d (.str all_), .i n_]) (bx0 := updW (fun _ => none) []) rfl rfl (by kernel_rfl) ⟨p, ⟨hne, hf⟩, hr⟩
 exact lim_run (k := k) rfl hk
def disp_Name_Q (n_ : Int) (r : (List UInt8)) (p : Out × St) : Prop := (∀ i, p.1 ≠ .exit i) ∧ finF F7 [.i n_] p.2 = some (.d (.str r), [.i n_])
theorem disp_Name_ok (n_ : Int) (r : (List UInt8)) (h : disp_Name n_ = some r) : Runs L F7.body ⟨tmOf [.i n_] 0, updW (fun _ => none) []⟩ (disp_Name_Q n_ r) := by
 unfold disp_Name at h
 refine Sq <| Ro <| Rc 1 [⟨.d (.str ([] : List UInt8)), []⟩] <| Rk <| Sq <| Ro <| Rc 2 [vi n_, vi (IntKind.wrap .i64 (n_ - 1))] ?_
 obtain ⟨r_1, hr_1, h⟩ := bind_s h
 have hc_1 := disp_nth_L ([65, 68, 68, 32, 79, 82, 32, 65, 68, 67, 32, 83, 66, 66, 32, 65, 78, 68, 32, 83, 85, 66, 32, 88, 79, 82, 32, 67, 77, 80, 32, 80, 85, 83, 72, 32, 80, 79, 80, 32, 68, 65, 65, 32, 68, 65, 83, 32, 65, 65, 65, 32, 65, 65, 83, 32, 73, 78, 67, 32, 68, 69, 67, 32, 74, 79, 32, 74, 78, 79, 32, 74, 66, 32, 74, 78, 66, 32, 74, 90, 32, 74, 78, 90, 32, 74, 66, 69, 32, 74, 65, 32, 74, 83, 32, 74, 78, 83, 32, 74, 80, 32, 74, 78, 80, 32, 74, 76, 32, 74, 71, 69, 32, 74, 76, 69, 32, 74, 71, 32, 84, 69, 83, 84, 32, 88, 67, 72, 71, 32, 77, 79, 86, 32, 76, 69, 65, 32, 67, 66, 87, 32, 67, 87, 68, 32, 67, 65, 76, 76, 32, 67, 65, 76, 76, 70, 32, 87, 65, 73, 84, 32, 80, 85, 83, 72, 70, 32, 80, 79, 80, 70, 32, 83, 65, 72, 70, 32, 76, 65, 72, 70, 32, 77, 79, 86, 83, 66, 32, 77, 79, 86, 83, 87, 32, 67, 77, 80, 83, 66, 32, 67, 77, 80, 83, 87, 32, 83, 84, 79, 83, 66, 32, 83, 84, 79, 83, 87, 32, 76, 79, 68, 83, 66, 32, 76, 79, 68, 83, 87, 32, 83, 67, 65, 83, 66, 32, 83, 67, 65, 83, 87, 32, 82, 69, 84, 32, 82, 69, 84, 70, 32, 76, 69, 83, 32, 76, 68, 83, 32, 73, 78, 84, 32, 73, 78, 84, 79, 32, 73, 82, 69, 84, 32, 82, 79, 76, 32, 82, 79, 82, 32, 82, 67, 76, 32, 82, 67, 82, 32, 83, 72, 76, 32, 83, 72, 82, 32, 83, 65, 82, 32, 65, 65, 77, 32, 65, 65, 68, 32, 88, 76, 65, 84, 32, 69, 83, 67, 32, 76, 79, 79, 80, 78, 90, 32, 76, 79, 79, 80, 90, 32, 76, 79, 79, 80, 32, 74, 67, 88, 90, 32, 73, 78, 32, 79, 85, 84, 32, 74, 77, 80, 32, 74, 77, 80, 70, 32, 72, 76, 84, 32, 67, 77, 67, 32, 78, 79, 84, 32, 78, 69, 71, 32, 77, 85, 76, 32, 73, 77, 85, 76, 32, 68, 73, 86, 32, 73, 68, 73, 86, 32, 67, 76, 67, 32, 83, 84, 67, 32, 67, 76, 73, 32, 83, 84, 73, 32, 67, 76, 68, 32, 83, 84, 68] : List UInt8) (IntKind.wrap .i64 (n_ - 1)) r_1 hr_1
 refine Rt (some 5) (.callf 20) [] none [.d (.str ([65, 68, 68, 32, 79, 82, 32, 65, 68, 67, 32, 83, 66, 66, 32, 65, 78, 68, 32, 83, 85, 66, 32, 88, 79, 82, 32, 67, 77, 80, 32, 80, 85, 83, 72, 32, 80, 79, 80, 32, 68, 65, 65, 32, 68, 65, 83, 32, 65, 65, 65, 32, 65, 65, 83, 32, 73, 78, 67, 32, 68, 69, 67, 32, 74, 79, 32, 74, 78, 79, 32, 74, 66, 32, 74, 78, 66, 32, 74, 90, 32, 74, 78, 90, 32, 74, 66, 69, 32, 74, 65, 32, 74, 83, 32, 74, 78, 83, 32, 74, 80, 32, 74, 78, 80, 32, 74, 76, 32, 74, 71, 69, 32, 74, 76, 69, 32, 74, 71, 32, 84, 69, 83, 84, 32, 88, 67, 72, 71, 32, 77, 79, 86, 32, 76, 69, 65, 32, 67, 66, 87, 32, 67, 87, 68, 32, 67, 65, 76, 76, 32, 67, 65, 76, 76, 70, 32, 87, 65, 73, 84, 32, 80, 85, 83, 72, 70, 32, 80, 79, 80, 70, 32, 83, 65, 72, 70, 32, 76, 65, 72, 70, 32, 77, 79, 86, 83, 66, 32, 77, 79, 86, 83, 87, 32, 67, 77, 80, 83, 66, 32, 67, 77, 80, 83, 87, 32, 83, 84, 79, 83, 66, 32, 83, 84, 79, 83, 87, 32, 76, 79, 68, 83, 66, 32, 76, 79, 68, 83, 87, 32, 83, 67, 65, 83, 66, 32, 83, 67, 65, 83, 87, 32, 82, 69, 84, 32, 82, 69, 84, 70, 32, 76, 69, 83, 32, 76, 68, 83, 32, 73, 78, 84, 32, 73, 78, 84, 79, 32, 73, 82, 69, 84, 32, 82, 79, 76, 32, 82, 79, 82, 32, 82, 67, 76, 32, 82, 67, 82, 32, 83, 72, 76, 32, 83, 72, 82, 32, 83, 65, 82, 32, 65, 65, 77, 32, 65, 65, 68, 32, 88, 76, 65, 84, 32, 69, 83, 67, 32, 76, 79, 79, 80, 78, 90, 32, 76, 79, 79, 80, 90, 32, 76, 79, 79, 80, 32, 74, 67, 88, 90, 32, 73, 78, 32, 79, 85, 84, 32, 74, 77, 80, 32, 74, 77, 80, 70, 32, 72, 76, 84, 32, 67, 77, 67, 32, 78, 79, 84, 32, 78, 69, 71, 32, 77, 85, 76, 32, 73, 77, 85, 76, 32, 68, 73, 86, 32, 73, 68, 73, 86, 32, 67, 76, 67, 32, 83, 84, 67, 32, 67, 76, 73, 32, 83, 84, 73, 32, 67, 76, 68, 32, 83, 84, 68] : List UInt8)), .i (IntKind.wrap .i64 (n_ - 1))] (.d (.str r_1)) [] (cc hc_1) ?_
 refine Rc 1 [⟨.d (.str r_1), []⟩] <| Rk <| Runs.ret ?_
 cases h
 exact Fq
theorem disp_Name_L (n_ : Int) (r : (List UInt8)) (h : disp_Name n_ = some r) : L 7 [.i n_] = some (.d (.str r), [.i n_]) := by
 obtain ⟨p, ⟨hne, hf⟩, hr⟩ := disp_Name_ok n_ r h
 obtain ⟨k, hk⟩ := run_of (F := F7) (args := [.i n_]) (ap := [.i n_]) (bx0 := updW (fun _ => none) []) rfl rfl (by kernel_rfl) ⟨p, ⟨hne, hf⟩, hr⟩
 exact lim_run (k := k) rfl hk
def disp_Byte_Q (n_ : Int) (r : (List UInt8)) (p : Out × St) : Prop := (∀ i, p.1 ≠ .exit i) ∧ finF F11 [.i n_] p.2 = some (.d (.str r), [.i n_])
theorem disp_Byte_ok (n_ : Int) (r : (List UInt8)) (h : disp_Byte n_ = some r) : Runs L F11.body ⟨tmOf [.i n_] 0, updW (fun _ => none) []⟩ (disp_Byte_Q n_ r) := by
 unfold disp_Byte at h
 refine Sq <| Ro <| Rc 1 [⟨.d (.str ([] : List UInt8)), []⟩] <| Rk <| Sq <| Ro <| Rc 1 [vi n_] ?_
 obtain ⟨r_1, hr_1, h⟩ := bind_s h
 have hc_1 := disp_nth_L ([65, 76, 32, 67, 76, 32, 68, 76, 32, 66, 76, 32, 65, 72, 32, 67, 72, 32, 68, 72, 32, 66, 72] : List UInt8) n_ r_1 hr_1
 refine Rt (some 4) (.callf 20) [] none [.d (.str ([65, 76, 32, 67, 76, 32, 68, 76, 32, 66, 76, 32, 65, 72, 32, 67, 72, 32, 68, 72, 32, 66, 72] : List UInt8)), .i n_] (.d (.str r_1)) [] (cc hc_1) <| Rc 1 [⟨.d (.str r_1), []⟩] <| Rk <| Runs.ret ?_
 cases h
 exact Fq
theorem disp_Byte_L (n_ : Int) (r : (List UInt8)) (h : disp_Byte n_ = some r) : L 11 [.i n_] = some (.d (.str r), [.i n_]) := by
 obtain ⟨p, ⟨hne, hf⟩, hr⟩ := disp_Byte_ok n_ r h
 obtain ⟨k, hk⟩ := run_of (F := F11) (args := [.i n_]) (ap := [.i n_]) (bx0 := updW (fun _ => none) []) rfl rfl (by kernel_rfl) ⟨p, ⟨hne, hf⟩, hr⟩
 exact lim_run (k := k) rfl hk
def disp_Seg_Q (n_ : Int) (r : (List UInt8)) (p : Out × St) : Prop := (∀ i, p.1 ≠ .exit i) ∧ finF F13 [.i n_] p.2 = some (.d (.str r), [.i n_])
theorem disp_Seg_ok (n_ : Int) (r : (List UInt8)) (h : disp_Seg n_ = some r) : Runs L F13.body ⟨tmOf [.i n_] 0, updW (fun _ => none) []⟩ (disp_Seg_Q n_ r) := by
 unfold disp_Seg at h
 refine Sq <| Ro <| Rc 1 [⟨.d (.str ([] : List UInt8)), []⟩] <| Rk <| Sq <| Ro <| Rc 1 [vi n_] ?_
 obtain ⟨r_1, hr_1, h⟩ := bind_s h
 have hc_1 := disp_nth_L ([69, 83, 32, 67, 83, 32, 83, 83, 32, 68, 83] : List UInt8) n_ r_1 hr_1
 refine Rt (some 4) (.callf 20) [] none [.d (.str ([69, 83, 32, 67, 83, 32, 83, 83, 32, 68, 83] : List UInt8)), .i n_] (.d (.str r_1)) [] (cc hc_1) <| Rc 1 [⟨.d (.str r_1), []⟩] <| Rk <| Runs.ret ?_
 cases h
 exact Fq
theorem disp_Seg_L (n_ : Int) (r : (List UInt8)) (h : disp_Seg n_ = some r) : L 13 [.i n_] = some (.d (.str r), [.i n_]) := by
 obtain ⟨p, ⟨hne, hf⟩, hr⟩ := disp_Seg_ok n_ r h
 obtain ⟨k, hk⟩ := run_of (F := F13) (args := [.i n_]) (ap := [.i n_]) (bx0 := updW (fun _ => none) []) rfl rfl (by kernel_rfl) ⟨p, ⟨hne, hf⟩, hr⟩
 exact lim_run (k := k) rfl hk
def disp_base_Q (rm_ : Int) (r : (List UInt8)) (p : Out × St) : Prop := (∀ i, p.1 ≠ .exit i) ∧ finF F66 [.i rm_] p.2 = some (.d (.str r), [.i rm_])
theorem disp_base_ok (rm_ : Int) (r : (List UInt8)) (h : disp_base rm_ = some r) : Runs L F66.body ⟨tmOf [.i rm_] 0, updW (fun _ => none) []⟩ (disp_base_Q rm_ r) := by
 unfold disp_base at h
 refine Sq <| Ro <| Rc 1 [⟨.d (.str ([] : List UInt8)), []⟩] <| Rk <| Sq <| Ro <| Rc 1 [vi rm_] ?_
 obtain ⟨r_1, hr_1, h⟩ := bind_s h
 have hc_1 := disp_nth_L ([66, 88, 43, 83, 73, 32, 66, 88, 43, 68, 73, 32, 66, 80, 43, 83, 73, 32, 66, 80, 43, 68, 73, 32, 83, 73, 32, 68, 73, 32, 66, 80, 32, 66, 88] : List UInt8) rm_ r_1 hr_1
 refine Rt (some 4) (.callf 20) [] none [.d (.str ([66, 88, 43, 83, 73, 32, 66, 88, 43, 68, 73, 32, 66, 80, 43, 83, 73, 32, 66, 80, 43, 68, 73, 32, 83, 73, 32, 68, 73, 32, 66, 80, 32, 66, 88] : List UInt8)), .i rm_] (.d (.str r_1)) [] (cc hc_1) <| Rc 1 [⟨.d (.str r_1), []⟩] <| Rk <| Runs.ret ?_
 cases h
 exact Fq
theorem disp_base_L (rm_ : Int) (r : (List UInt8)) (h : disp_base rm_ = some r) : L 66 [.i rm_] = some (.d (.str r), [.i rm_]) := by
 obtain ⟨p, ⟨hne, hf⟩, hr⟩ := disp_base_ok rm_ r h
 obtain ⟨k, hk⟩ := run_of (F := F66) (args := [.i rm_]) (ap := [.i rm_]) (bx0 := updW (fun _ => none) []) rfl rfl (by kernel_rfl) ⟨p, ⟨hne, hf⟩, hr⟩
 exact lim_run (k := k) rfl hk
def bits_Digits_h10n (b_11 : (List Int)) (n0 : Int) (many1 : Int) (t13 : Int) (t14 : Int) (v_11 : Nat) (n_11 : Nat) : St := ⟨tab [(0, .u n0), (1, .i many1), (5, .ref [11] v_11 0 n_11 1), (13, .i t13), (14, .i t14)], tabB [([11], some (.arr (mY b_11) v_11 false))]⟩
def bits_Digits_h10 (b_11 : (List Int)) (n0 : Int) (many1 : Int) (t13 : Int) (t14 : Int) (v_11 : Nat) : St := bits_Digits_h10n b_11 n0 many1 t13 t14 v_11 (mY b_11).length
def bits_Digits_h25 (b_11 : (List Int)) (v_11 : Nat) : St := ⟨tab [(5, .ref [11] v_11 0 (mY b_11).length 1)], tabB [([11], some (.arr (mY b_11) v_11 false))]⟩
def bits_Digits_Q (n_ : Int) (many_ : Int) (r : (List UInt8)) (p : Out × St) : Prop := (∀ i, p.1 ≠ .exit i) ∧ finF F45 [.u n_, .i many_] p.2 = some (.d (.str r), [.u n_, .i many_])
def bits_Digits_P10 (n_ : Int) (many_ : Int) (many1 : Int) (t13 : Int) (e : (List Int)) (p : Out × St) : Prop := p.1 = .exit 0 ∧ ∃ g : Nat, Canon [] [5] [[11]] p.2 (bits_Digits_h25 e g)
theorem bits_Digits_l10_ok (n_ : Int) (many_ : Int) (b_11 : (List Int)) (n0 : Int) (many1 : Int) (t13 : Int) (t14 : Int) (v_11 : Nat) (r : (Lp ((List Int) × Int × Int) (List Int))) (h : bits_Digits_l10 b_11 n0 many1 t13 t14 = some r) : Runs L F45l10 (bits_Digits_h10 b_11 n0 many1 t13 t14 v_11) (LQ [] [0, 1, 5, 13, 14] [[11]] (fun (x : ((List Int) × Int × Int)) (g : Nat) => bits_Digits_h10 x.1 x.2.1 many1 t13 x.2.2 g) (bits_Digits_P10 n_ many_ many1 t13) r) := by
 unfold bits_Digits_l10 at h
 refine Sq <| Ro <| Rc 1 [vb (decide (t14 < t13))] <| Rk <| Sq ?_
 cases hb_1 : ((decide (t14 < t13)) : Bool) with
 | true =>
  replace h := ite_t hb_1 h
  refine Ct <| Runs.skip <| kS_nrm <| Sq <| Runs.block <| Sq <| Ro <| Rc 2 [vi t14, vi t14] <| Rk <| Sq <| Ro <| Rc 7 [⟨.ref [11] v_11 0 (mY b_11).length 1, []⟩, vi many1, vi (IntKind.wrap .i64 (many1 - 1)), vi t14, vi (IntKind.wrap .i64 ((IntKind.wrap .i64 (many1 - 1)) - t14)), vu n0, vu (bitsOp .and .u32 n0 15)] ?_
  obtain ⟨z_2, hz_2, h⟩ := bind_s h
  refine Rt (some 24) .indexS [] none [.d (.str ([48, 49, 50, 51, 52, 53, 54, 55, 56, 57, 65, 66, 67, 68, 69, 70] : List UInt8)), .u (bitsOp .and .u32 n0 15)] (.y (z_2.toNat : Int)) [] (cut_ixS hz_2) ?_
  obtain ⟨z_3, hz_3, h⟩ := bind_s h
  refine Rt (some 25) (.iaddrS 1) [] none [.ref [11] v_11 0 (mY b_11).length 1, .i (IntKind.wrap .i64 ((IntKind.wrap .i64 (many1 - 1)) - t14))] (.eref [11] v_11 (0 + ((IntKind.wrap .i64 ((IntKind.wrap .i64 (many1 - 1)) - t14))).toNat) 0) [] (cut_atR (e := (D.int .u8)) (l := b_11) hz_3 rfl) <| Rt none (.store 1) [] none [.eref [11] v_11 (0 + ((IntKind.wrap .i64 ((IntKind.wrap .i64 (many1 - 1)) - t14))).toNat) 0, .y (z_2.toNat : Int)] (.tup []) [([11], some (.arr (mY (List.set b_11 ((IntKind.wrap .i64 ((IntKind.wrap .i64 (many1 - 1)) - t14))).toNat (z_2.toNat : Int))) v_11 false))] (cut_setR (e := (D.int .u8)) (l := b_11) (y := z_3) (y' := (z_2.toNat : Int)) (ds := [.int .u8 (z_2.toNat : Int)]) (by kernel_rfl) hz_3 (by kernel_rfl) (by kernel_rfl) (by kernel_rfl) (by kernel_rfl)) <| Rk <| Ro <| Rc 3 [vu n0, vu (shrI .u32 n0 4), vu (shrI .u32 n0 4)] <| Rd <| kB_nrm <| kS_nrm <| Ro <| Rc 2 [vi (IntKind.wrap .i64 (t14 + 1)), vi (IntKind.wrap .i64 (t14 + 1))] <| Rd ?_
  obtain rfl := sj h
  exact ⟨rfl, v_11, (Canon.len (f := fun n => bits_Digits_h10n (List.set b_11 ((IntKind.wrap .i64 ((IntKind.wrap .i64 (many1 - 1)) - t14))).toNat (z_2.toNat : Int)) (shrI .u32 n0 4) many1 t13 (IntKind.wrap .i64 (t14 + 1)) v_11 n) ((by simp only [List.length_map, List.length_set, cpy_length] : (mY b_11).length = (mY (List.set b_11 ((IntKind.wrap .i64 ((IntKind.wrap .i64 (many1 - 1)) - t14))).toNat (z_2.toNat : Int))).length)).symm Cz)⟩
 | false =>
  replace h := ite_f hb_1 h
  refine Cf <| Runs.exit <| kS_exit ?_
  obtain rfl := sj h
  exact ⟨nofun, rfl, v_11, Cz⟩
theorem bits_Digits_ok (n_ : Int) (many_ : Int) (r : (List UInt8)) (h : bits_Digits n_ many_ = some r) : Runs L F45.body ⟨tmOf [.u n_, .i many_] 0, updW (fun _ => none) []⟩ (bits_Digits_Q n_ many_ r) := by
 unfold bits_Digits at h
 refine Sq <| Ro <| Rc 1 [⟨.d (.str ([] : List UInt8)), []⟩] <| Rk <| Sq <| Ro <| Rc 4 [vi many_, vi (mxI many_ 1), vi (mnI (mxI many_ 1) 8), vi (mnI (mxI many_ 1) 8)] <| Rk <| Sq <| Ro <| Rc 1 [vi (mnI (mxI many_ 1) 8)] ?_
 obtain ⟨z_1, hz_1, h⟩ := bind_s h
 refine Rt (some 11) (.mkslice (.int .u8 0) 1) [] none [.i (mnI (mxI many_ 1) 8), .i (mnI (mxI many_ 1) 8)] (.ref [11] 0 0 (mY z_1).length 1) [([11], some (.arr (mY z_1) 0 false))] (cut_mk (e := (D.int .u8)) (z := 0) hz_1 rfl (by kernel_rfl)) <| Rc 1 [⟨.ref [11] 0 0 (mY z_1).length 1, []⟩] <| Rk <| Sq <| Sq <| Ro <| Rc 1 [⟨.ref [11] 0 0 (mY z_1).length 1, []⟩] <| Rt (some 13) .lenL [] none [.ref [11] 0 0 (mY z_1).length 1] (.i (z_1.length : Int)) [] (cut_lenR (e := (D.int .u8)) z_1 rfl) <| Rc 1 [vi 0] <| Rk <| Runs.block ?_
 obtain ⟨e_1, he_1, h⟩ := bind_s h
 refine Runs.loop (fun x : ((List Int) × Int × Int) => bits_Digits_l10 x.1 x.2.1 (mnI (mxI many_ 1) 8) (z_1.length : Int) x.2.2) (fun (x : ((List Int) × Int × Int)) (g : Nat) => bits_Digits_h10 x.1 x.2.1 (mnI (mxI many_ 1) 8) (z_1.length : Int) x.2.2 g) (bits_Digits_P10 n_ many_ (mnI (mxI many_ 1) 8) (z_1.length : Int)) (fun x g r hr => bits_Digits_l10_ok n_ many_ x.1 x.2.1 (mnI (mxI many_ 1) 8) (z_1.length : Int) x.2.2 g r hr) 0 he_1 Cz ?_
 rintro ⟨o, s⟩ hp
 obtain ⟨ho, g_1, hk_1⟩ := hp
 have ho' : o = .exit 0 := ho
 subst ho'
 refine kB_hit <| kS_nrm <| Runs.canon _ hk_1 <| Sq <| Ro <| Rc 1 [⟨.ref [11] g_1 0 (mY e_1).length 1, []⟩] <| Rt (some 30) .bytesStr [] none [.ref [11] g_1 0 (mY e_1).length 1] (.d (.str (b2s e_1))) [] (cut_bsR (l := e_1) (fz := false) (by kernel_rfl) (by kernel_rfl) rfl) <| Rc 1 [⟨.d (.str (b2s e_1)), []⟩] <| Rk <| Runs.ret ?_
 cases h
 exact Fq
theorem bits_Digits_L (n_ : Int) (many_ : Int) (r : (List UInt8)) (h : bits_Digits n_ many_ = some r) : L 45 [.u n_, .i many_] = some (.d (.str r), [.u n_, .i many_]) := by
 obtain ⟨p, ⟨hne, hf⟩, hr⟩ := bits_Digits_ok n_ many_ r h
 obtain ⟨k, hk⟩ := run_of (F := F45) (args := [.u n_, .i many_]) (ap := [.u n_, .i many_]) (bx0 := updW (fun _ => none) []) rfl rfl (by kernel_rfl) ⟨p, ⟨hne, hf⟩, hr⟩
 exact lim_run (k := k) rfl hk
def disp_place_h10 (i1 : Inst) (s3 : (List UInt8)) : St := ⟨tab [(1, .ptr [1] 0 0), (3, .d (.str s3))], tabB [([1], some (.cells [.b i1.Lock, .i i1.Rep, .i i1.Seg, .y i1.Op, .i i1.Mod, .i i1.Reg, .i i1.RM, .w i1.Disp, .w i1.Imm, .w i1.Sel] 0))]⟩
def disp_place_Q (i_ : Inst) (r : (List UInt8)) (p : Out × St) : Prop := (∀ i, p.1 ≠ .exit i) ∧ finF F44 [.d (Inst.d i_)] p.2 = some (.d (.str r), [.d (Inst.d i_)])
theorem disp_place_j10_ok (i_ : Inst) (i1 : Inst) (s3 : (List UInt8)) (r : (List UInt8)) (h : disp_place_j10 i1 s3 = some r) : Runs L F44b10 (disp_place_h10 i1 s3) (disp_place_Q i_ r) := by
 unfold disp_place_j10 at h
 refine Sq <| Sq <| Ro <| Rc 4 [vp [1] 0 4, vi i1.Mod, vp [1] 0 6, vi i1.RM] ?_
 obtain ⟨r_2, hr_2, h⟩ := bind_s h
 have hc_2 := inst_Disps_L i1.Mod i1.RM r_2 hr_2
 refine Rt (some 18) (.callf 53) [] none [.i i1.Mod, .i i1.RM] (.i r_2) [] (cc hc_2) <| Rk <| Runs.block <| Sq <| Ro <| Rc 2 [vb (r_2 == 0), vb (r_2 == 0)] <| Rk ?_
 cases hb_2 : ((r_2 == 0) : Bool) with
 | true =>
  replace h := ite_t hb_2 h
  refine Ct <| Sq <| Ro <| Rc 1 [⟨.d (.str s3), []⟩] ?_
  obtain ⟨z_2, hz_2, h⟩ := bind_s h
  refine Rt (some 22) (.bin .add) [] none [.d (.str s3), .d (.str ([91] : List UInt8))] (.d (.str z_2)) [] (cut_cat hz_2) <| Rc 2 [vp [1] 0 6, vi i1.RM] ?_
  obtain ⟨r_3, hr_3, h⟩ := bind_s h
  have hc_3 := disp_base_L i1.RM r_3 hr_3
  refine Rt (some 25) (.callf 66) [] none [.i i1.RM] (.d (.str r_3)) [] (cc hc_3) ?_
  obtain ⟨z_3, hz_3, h⟩ := bind_s h
  refine Rt (some 26) (.bin .add) [] none [.d (.str z_2), .d (.str r_3)] (.d (.str z_3)) [] (cut_cat hz_3) ?_
  obtain ⟨z_4, hz_4, h⟩ := bind_s h
  refine Rt (some 27) (.bin .add) [] none [.d (.str z_3), .d (.str ([93] : List UInt8))] (.d (.str z_4)) [] (cut_cat hz_4) <| Rc 1 [⟨.d (.str z_4), []⟩] <| Rk <| Runs.ret <| kB_ret <| kS_ret ?_
  cases h
  exact Fq
 | false =>
  replace h := ite_f hb_2 h
  refine Cf <| Sq <| Ro <| Rc 2 [vb (r_2 == 1), vb (r_2 == 1)] <| Rk ?_
  cases hb_3 : ((r_2 == 1) : Bool) with
  | true =>
   replace h := ite_t hb_3 h
   refine Ct <| Sq <| Ro <| Rc 4 [vp [1] 0 7, vw i1.Disp, ⟨.d (.str ([43] : List UInt8)), []⟩, vw i1.Disp] <| Rk <| Sq <| Sq <| Ro <| Rc 2 [vw i1.Disp, vb (decide (i1.Disp ≥ 32768))] <| Rk ?_
   cases hb_4 : ((decide (i1.Disp ≥ 32768)) : Bool) with
   | true =>
    replace h := ite_t hb_4 h
    refine Ct <| Ro <| Rc 4 [vw i1.Disp, vw (IntKind.wrap .u16 (0 - i1.Disp)), ⟨.d (.str ([45] : List UInt8)), []⟩, vw (IntKind.wrap .u16 (0 - i1.Disp))] <| Rk <| Sq <| Ro <| Rc 1 [⟨.d (.str s3), []⟩] ?_
    obtain ⟨z_5, hz_5, h⟩ := bind_s h
    refine Rt (some 37) (.bin .add) [] none [.d (.str s3), .d (.str ([91] : List UInt8))] (.d (.str z_5)) [] (cut_cat hz_5) <| Rc 2 [vp [1] 0 6, vi i1.RM] ?_
    obtain ⟨r_4, hr_4, h⟩ := bind_s h
    have hc_4 := disp_base_L i1.RM r_4 hr_4
    refine Rt (some 40) (.callf 66) [] none [.i i1.RM] (.d (.str r_4)) [] (cc hc_4) ?_
    obtain ⟨z_6, hz_6, h⟩ := bind_s h
    refine Rt (some 41) (.bin .add) [] none [.d (.str z_5), .d (.str r_4)] (.d (.str z_6)) [] (cut_cat hz_6) <| Rc 1 [⟨.d (.str ([45] : List UInt8)), []⟩] ?_
    obtain ⟨z_7, hz_7, h⟩ := bind_s h
    refine Rt (some 43) (.bin .add) [] none [.d (.str z_6), .d (.str ([45] : List UInt8))] (.d (.str z_7)) [] (cut_cat hz_7) <| Rc 2 [vw (IntKind.wrap .u16 (0 - i1.Disp)), vu (IntKind.wrap .u32 (IntKind.wrap .u16 (0 - i1.Disp)))] ?_
    obtain ⟨r_5, hr_5, h⟩ := bind_s h
    have hc_5 := bits_Digits_L (IntKind.wrap .u32 (IntKind.wrap .u16 (0 - i1.Disp))) 2 r_5 hr_5
    refine Rt (some 46) (.callf 45) [] none [.u (IntKind.wrap .u32 (IntKind.wrap .u16 (0 - i1.Disp))), .i 2] (.d (.str r_5)) [] (cc hc_5) ?_
    obtain ⟨z_8, hz_8, h⟩ := bind_s h
    refine Rt (some 47) (.bin .add) [] none [.d (.str z_7), .d (.str r_5)] (.d (.str z_8)) [] (cut_cat hz_8) ?_
    obtain ⟨z_9, hz_9, h⟩ := bind_s h
    refine Rt (some 48) (.bin .add) [] none [.d (.str z_8), .d (.str ([93] : List UInt8))] (.d (.str z_9)) [] (cut_cat hz_9) <| Rc 1 [⟨.d (.str z_9), []⟩] <| Rk <| Runs.ret <| kB_ret <| kS_ret ?_
    cases h
    exact Fq
   | false =>
    replace h := ite_f hb_4 h
    refine Cf <| Runs.skip <| kS_nrm <| Sq <| Ro <| Rc 1 [⟨.d (.str s3), []⟩] ?_
    obtain ⟨z_10, hz_10, h⟩ := bind_s h
    refine Rt (some 37) (.bin .add) [] none [.d (.str s3), .d (.str ([91] : List UInt8))] (.d (.str z_10)) [] (cut_cat hz_10) <| Rc 2 [vp [1] 0 6, vi i1.RM] ?_
    obtain ⟨r_6, hr_6, h⟩ := bind_s h
    have hc_6 := disp_base_L i1.RM r_6 hr_6
    refine Rt (some 40) (.callf 66) [] none [.i i1.RM] (.d (.str r_6)) [] (cc hc_6) ?_
    obtain ⟨z_11, hz_11, h⟩ := bind_s h
    refine Rt (some 41) (.bin .add) [] none [.d (.str z_10), .d (.str r_6)] (.d (.str z_11)) [] (cut_cat hz_11) <| Rc 1 [⟨.d (.str ([43] : List UInt8)), []⟩] ?_
    obtain ⟨z_12, hz_12, h⟩ := bind_s h
    refine Rt (some 43) (.bin .add) [] none [.d (.str z_11), .d (.str ([43] : List UInt8))] (.d (.str z_12)) [] (cut_cat hz_12) <| Rc 2 [vw i1.Disp, vu (IntKind.wrap .u32 i1.Disp)] ?_
    obtain ⟨r_7, hr_7, h⟩ := bind_s h
    have hc_7 := bits_Digits_L (IntKind.wrap .u32 i1.Disp) 2 r_7 hr_7
    refine Rt (some 46) (.callf 45) [] none [.u (IntKind.wrap .u32 i1.Disp), .i 2] (.d (.str r_7)) [] (cc hc_7) ?_
    obtain ⟨z_13, hz_13, h⟩ := bind_s h
    refine Rt (some 47) (.bin .add) [] none [.d (.str z_12), .d (.str r_7)] (.d (.str z_13)) [] (cut_cat hz_13) ?_
    obtain ⟨z_14, hz_14, h⟩ := bind_s h
    refine Rt (some 48) (.bin .add) [] none [.d (.str z_13), .d (.str ([93] : List UInt8))] (.d (.str z_14)) [] (cut_cat hz_14) <| Rc 1 [⟨.d (.str z_14), []⟩] <| Rk <| Runs.ret <| kB_ret <| kS_ret ?_
    cases h
    exact Fq
  | false =>
   replace h := ite_f hb_3 h
   refine Cf <| Runs.skip <| kB_nrm <| kS_nrm <| Sq <| Sq <| Ro <| Rc 3 [vp [1] 0 4, vi i1.Mod, vb (i1.Mod == 0)] <| Rk ?_
   cases hb_5 : ((i1.Mod == 0) : Bool) with
   | true =>
    replace h := ite_t hb_5 h
    refine Ct <| Sq <| Ro <| Rc 1 [⟨.d (.str s3), []⟩] ?_
    obtain ⟨z_15, hz_15, h⟩ := bind_s h
    refine Rt (some 53) (.bin .add) [] none [.d (.str s3), .d (.str ([91] : List UInt8))] (.d (.str z_15)) [] (cut_cat hz_15) <| Rc 3 [vp [1] 0 7, vw i1.Disp, vu (IntKind.wrap .u32 i1.Disp)] ?_
    obtain ⟨r_8, hr_8, h⟩ := bind_s h
    have hc_8 := bits_Digits_L (IntKind.wrap .u32 i1.Disp) 4 r_8 hr_8
    refine Rt (some 57) (.callf 45) [] none [.u (IntKind.wrap .u32 i1.Disp), .i 4] (.d (.str r_8)) [] (cc hc_8) ?_
    obtain ⟨z_16, hz_16, h⟩ := bind_s h
    refine Rt (some 58) (.bin .add) [] none [.d (.str z_15), .d (.str r_8)] (.d (.str z_16)) [] (cut_cat hz_16) ?_
    obtain ⟨z_17, hz_17, h⟩ := bind_s h
    refine Rt (some 59) (.bin .add) [] none [.d (.str z_16), .d (.str ([93] : List UInt8))] (.d (.str z_17)) [] (cut_cat hz_17) <| Rc 1 [⟨.d (.str z_17), []⟩] <| Rk <| Runs.ret <| kS_ret ?_
    cases h
    exact Fq
   | false =>
    replace h := ite_f hb_5 h
    refine Cf <| Runs.skip <| kS_nrm <| Sq <| Ro <| Rc 1 [⟨.d (.str s3), []⟩] ?_
    obtain ⟨z_18, hz_18, h⟩ := bind_s h
    refine Rt (some 61) (.bin .add) [] none [.d (.str s3), .d (.str ([91] : List UInt8))] (.d (.str z_18)) [] (cut_cat hz_18) <| Rc 2 [vp [1] 0 6, vi i1.RM] ?_
    obtain ⟨r_9, hr_9, h⟩ := bind_s h
    have hc_9 := disp_base_L i1.RM r_9 hr_9
    refine Rt (some 64) (.callf 66) [] (some []) [.i i1.RM] (.d (.str r_9)) [] (cc hc_9) ?_
    obtain ⟨z_19, hz_19, h⟩ := bind_s h
    refine Rt (some 65) (.bin .add) [] none [.d (.str z_18), .d (.str r_9)] (.d (.str z_19)) [] (cut_cat hz_19) ?_
    obtain ⟨z_20, hz_20, h⟩ := bind_s h
    refine Rt (some 66) (.bin .add) [] none [.d (.str z_19), .d (.str ([43] : List UInt8))] (.d (.str z_20)) [] (cut_cat hz_20) <| Rc 3 [vp [1] 0 7, vw i1.Disp, vu (IntKind.wrap .u32 i1.Disp)] ?_
    obtain ⟨r_10, hr_10, h⟩ := bind_s h
    have hc_10 := bits_Digits_L (IntKind.wrap .u32 i1.Disp) 4 r_10 hr_10
    refine Rt (some 70) (.callf 45) [] none [.u (IntKind.wrap .u32 i1.Disp), .i 4] (.d (.str r_10)) [] (cc hc_10) ?_
    obtain ⟨z_21, hz_21, h⟩ := bind_s h
    refine Rt (some 71) (.bin .add) [] none [.d (.str z_20), .d (.str r_10)] (.d (.str z_21)) [] (cut_cat hz_21) ?_
    obtain ⟨z_22, hz_22, h⟩ := bind_s h
    refine Rt (some 72) (.bin .add) [] none [.d (.str z_21), .d (.str ([93] : List UInt8))] (.d (.str z_22)) [] (cut_cat hz_22) <| Rc 1 [⟨.d (.str z_22), []⟩] <| Rk <| Runs.ret ?_
    cases h
    exact Fq
theorem disp_place_ok (i_ : Inst) (r : (List UInt8)) (h : disp_place i_ = some r) : Runs L F44.body ⟨tmOf [.d (Inst.d i_)] 0, updW (fun _ => none) []⟩ (disp_place_Q i_ r) := by
 unfold disp_place at h
 refine Sq <| Ro <| Rc 2 [⟨.ptr [1] 0 0, [([1], some (.cells [.b i_.Lock, .i i_.Rep, .i i_.Seg, .y i_.Op, .i i_.Mod, .i i_.Reg, .i i_.RM, .w i_.Disp, .w i_.Imm, .w i_.Sel] 0))]⟩, ⟨.d (.str ([] : List UInt8)), []⟩] <| Rk <| Sq <| Ro <| Rc 1 [⟨.d (.str ([] : List UInt8)), []⟩] <| Rk <| Sq <| Sq <| Ro <| Rc 3 [vp [1] 0 2, vi i_.Seg, vb (decide (i_.Seg > 0))] <| Rk ?_
 cases hb_1 : ((decide (i_.Seg > 0)) : Bool) with
 | true =>
  replace h := ite_t hb_1 h
  refine Ct <| Ro <| Rc 3 [vp [1] 0 2, vi i_.Seg, vi (IntKind.wrap .i64 (i_.Seg - 1))] ?_
  obtain ⟨r_1, hr_1, h⟩ := bind_s h
  have hc_1 := disp_Seg_L (IntKind.wrap .i64 (i_.Seg - 1)) r_1 hr_1
  refine Rt (some 12) (.callf 13) [] none [.i (IntKind.wrap .i64 (i_.Seg - 1))] (.d (.str r_1)) [] (cc hc_1) ?_
  obtain ⟨z_1, hz_1, h⟩ := bind_s h
  refine Rt (some 13) (.bin .add) [] none [.d (.str r_1), .d (.str ([58] : List UInt8))] (.d (.str z_1)) [] (cut_cat hz_1) <| Rc 1 [⟨.d (.str z_1), []⟩] <| Rk <| Runs.canon (disp_place_h10 i_ z_1) Cz ?_
  exact disp_place_j10_ok i_ i_ z_1 r h
 | false =>
  replace h := ite_f hb_1 h
  refine Cf <| Runs.skip <| kS_nrm <| Runs.canon (disp_place_h10 i_ ([] : List UInt8)) Cz ?_
  exact disp_place_j10_ok i_ i_ ([] : List UInt8) r h
theorem disp_place_L (i_ : Inst) (r : (List UInt8)) (h : disp_place i_ = some r) : L 44 [.d (Inst.d i_)] = some (.d (.str r), [.d (Inst.d i_)]) := by
 obtain ⟨p, ⟨hne, hf⟩, hr⟩ := disp_place_ok i_ r h
 obtain ⟨k, hk⟩ := run_of (F := F44) (args := [.d (Inst.d i_)]) (ap := [.d (Inst.d i_)]) (bx0 := updW (fun _ => none) []) rfl rfl (by kernel_rfl) ⟨p, ⟨hne, hf⟩, hr⟩
 exact lim_run (k := k) rfl hk
def disp_Reg_Q (n_ : Int) (r : (List UInt8)) (p : Out × St) : Prop := (∀ i, p.1 ≠ .exit i) ∧ finF F9 [.i n_] p.2 = some (.d (.str r), [.i n_])
theorem disp_Reg_ok (n_ : Int) (r : (List UInt8)) (h : disp_Reg n_ = some r) : Runs L F9.body ⟨tmOf [.i n_] 0, updW (fun _ => none) []⟩ (disp_Reg_Q n_ r) := by
 unfold disp_Reg at h
 refine Sq <| Ro <| Rc 1 [⟨.d (.str ([] : List UInt8)), []⟩] <| Rk <| Sq <| Ro <| Rc 1 [vi n_] ?_
 obtain ⟨r_1, hr_1, h⟩ := bind_s h
 have hc_1 := disp_nth_L ([65, 88, 32, 67, 88, 32, 68, 88, 32, 66, 88, 32, 83, 80, 32, 66, 80, 32, 83, 73, 32, 68, 73] : List UInt8) n_ r_1 hr_1
 refine Rt (some 4) (.callf 20) [] none [.d (.str ([65, 88, 32, 67, 88, 32, 68, 88, 32, 66, 88, 32, 83, 80, 32, 66, 80, 32, 83, 73, 32, 68, 73] : List UInt8)), .i n_] (.d (.str r_1)) [] (cc hc_1) <| Rc 1 [⟨.d (.str r_1), []⟩] <| Rk <| Runs.ret ?_
 cases h
 exact Fq
theorem disp_Reg_L (n_ : Int) (r : (List UInt8)) (h : disp_Reg n_ = some r) : L 9 [.i n_] = some (.d (.str r), [.i n_]) := by
 obtain ⟨p, ⟨hne, hf⟩, hr⟩ := disp_Reg_ok n_ r h
 obtain ⟨k, hk⟩ := run_of (F := F9) (args := [.i n_]) (ap := [.i n_]) (bx0 := updW (fun _ => none) []) rfl rfl (by kernel_rfl) ⟨p, ⟨hne, hf⟩, hr⟩
 exact lim_run (k := k) rfl hk
def disp_other_h10 (i2 : Inst) (op1 : Int) (ahead5 : (List UInt8)) : St := ⟨tab [(1, .i op1), (2, .ptr [2] 0 0), (5, .d (.str ahead5))], tabB [([2], some (.cells [.b i2.Lock, .i i2.Rep, .i i2.Seg, .y i2.Op, .i i2.Mod, .i i2.Reg, .i i2.RM, .w i2.Disp, .w i2.Imm, .w i2.Sel] 0))]⟩
def disp_other_h20 (i2 : Inst) (ahead5 : (List UInt8)) (t14 : Int) (t15 : Bool) : St := ⟨tab [(2, .ptr [2] 0 0), (5, .d (.str ahead5)), (14, .i t14), (15, .b t15)], tabB [([2], some (.cells [.b i2.Lock, .i i2.Rep, .i i2.Seg, .y i2.Op, .i i2.Mod, .i i2.Reg, .i i2.RM, .w i2.Disp, .w i2.Imm, .w i2.Sel] 0))]⟩
def disp_other_Q (i_ : Inst) (op_ : Int) (r : (List UInt8)) (p : Out × St) : Prop := (∀ i, p.1 ≠ .exit i) ∧ finF F46 [.d (Inst.d i_), .i op_] p.2 = some (.d (.str r), [.d (Inst.d i_), .i op_])
theorem disp_other_j20_ok (i_ : Inst) (op_ : Int) (i2 : Inst) (ahead5 : (List UInt8)) (t14 : Int) (t15 : Bool) (r : (List UInt8)) (h : disp_other_j20 i2 ahead5 t14 t15 = some r) : Runs L F46b20 (disp_other_h20 i2 ahead5 t14 t15) (kB 0 (kS L F46c105 (disp_other_Q i_ op_ r))) := by
 unfold disp_other_j20 at h
 cases hb_3 : (t15 : Bool) with
 | true =>
  replace h := ite_t hb_3 h
  refine Ct <| Sq <| Sq <| Ro <| Rc 3 [vp [2] 0 8, vw i2.Imm, vb (decide (i2.Imm ≥ 32768))] <| Rk ?_
  cases hb_4 : ((decide (i2.Imm ≥ 32768)) : Bool) with
  | true =>
   replace h := ite_t hb_4 h
   refine Ct <| Sq <| Ro <| Rc 4 [vp [2] 0 8, vw i2.Imm, vw (IntKind.wrap .u16 (0 - i2.Imm)), vu (IntKind.wrap .u32 (IntKind.wrap .u16 (0 - i2.Imm)))] ?_
   obtain ⟨r_2, hr_2, h⟩ := bind_s h
   have hc_2 := bits_Digits_L (IntKind.wrap .u32 (IntKind.wrap .u16 (0 - i2.Imm))) 4 r_2 hr_2
   refine Rt (some 25) (.callf 45) [] none [.u (IntKind.wrap .u32 (IntKind.wrap .u16 (0 - i2.Imm))), .i 4] (.d (.str r_2)) [] (cc hc_2) ?_
   obtain ⟨z_2, hz_2, h⟩ := bind_s h
   refine Rt (some 26) (.bin .add) [] none [.d (.str ([45] : List UInt8)), .d (.str r_2)] (.d (.str z_2)) [] (cut_cat hz_2) <| Rc 1 [⟨.d (.str z_2), []⟩] <| Rk <| Runs.ret <| kS_ret <| kB_ret <| kS_ret ?_
   cases h
   exact Fq
  | false =>
   replace h := ite_f hb_4 h
   refine Cf <| Runs.skip <| kS_nrm <| Sq <| Ro <| Rc 3 [vp [2] 0 8, vw i2.Imm, vu (IntKind.wrap .u32 i2.Imm)] ?_
   obtain ⟨r_3, hr_3, h⟩ := bind_s h
   have hc_3 := bits_Digits_L (IntKind.wrap .u32 i2.Imm) 4 r_3 hr_3
   refine Rt (some 30) (.callf 45) [] none [.u (IntKind.wrap .u32 i2.Imm), .i 4] (.d (.str r_3)) [] (cc hc_3) ?_
   obtain ⟨z_3, hz_3, h⟩ := bind_s h
   refine Rt (some 31) (.bin .add) [] none [.d (.str ([43] : List UInt8)), .d (.str r_3)] (.d (.str z_3)) [] (cut_cat hz_3) <| Rc 1 [⟨.d (.str z_3), []⟩] <| Rk <| Runs.ret <| kB_ret <| kS_ret ?_
   cases h
   exact Fq
 | false =>
  replace h := ite_f hb_3 h
  refine Cf <| Sq <| Ro <| Rc 2 [vb (t14 == 11), vb (t14 == 11)] <| Rk ?_
  cases hb_5 : ((t14 == 11) : Bool) with
  | true =>
   replace h := ite_t hb_5 h
   refine Ct <| Sq <| Ro <| Rc 3 [vp [2] 0 9, vw i2.Sel, vu (IntKind.wrap .u32 i2.Sel)] ?_
   obtain ⟨r_4, hr_4, h⟩ := bind_s h
   have hc_4 := bits_Digits_L (IntKind.wrap .u32 i2.Sel) 4 r_4 hr_4
   refine Rt (some 37) (.callf 45) [] (some []) [.u (IntKind.wrap .u32 i2.Sel), .i 4] (.d (.str r_4)) [] (cc hc_4) ?_
   obtain ⟨z_4, hz_4, h⟩ := bind_s h
   refine Rt (some 38) (.bin .add) [] none [.d (.str r_4), .d (.str ([58] : List UInt8))] (.d (.str z_4)) [] (cut_cat hz_4) <| Rc 3 [vp [2] 0 8, vw i2.Imm, vu (IntKind.wrap .u32 i2.Imm)] ?_
   obtain ⟨r_5, hr_5, h⟩ := bind_s h
   have hc_5 := bits_Digits_L (IntKind.wrap .u32 i2.Imm) 4 r_5 hr_5
   refine Rt (some 42) (.callf 45) [] none [.u (IntKind.wrap .u32 i2.Imm), .i 4] (.d (.str r_5)) [] (cc hc_5) ?_
   obtain ⟨z_5, hz_5, h⟩ := bind_s h
   refine Rt (some 43) (.bin .add) [] none [.d (.str z_4), .d (.str r_5)] (.d (.str z_5)) [] (cut_cat hz_5) <| Rc 1 [⟨.d (.str z_5), []⟩] <| Rk <| Runs.ret <| kB_ret <| kS_ret ?_
   cases h
   exact Fq
  | false =>
   replace h := ite_f hb_5 h
   refine Cf <| Sq <| Ro <| Rc 2 [vb (t14 == 12), vb (t14 == 12)] <| Rk ?_
   cases hb_6 : ((t14 == 12) : Bool) with
   | true =>
    replace h := ite_t hb_6 h
    refine Ct <| Sq <| Ro <| Rc 1 [⟨.d (.str ahead5), []⟩] ?_
    obtain ⟨z_6, hz_6, h⟩ := bind_s h
    refine Rt (some 47) (.bin .add) [] none [.d (.str ([66, 89, 84, 69, 32] : List UInt8)), .d (.str ahead5)] (.d (.str z_6)) [] (cut_cat hz_6) ?_
    obtain ⟨z_7, hz_7, h⟩ := bind_s h
    refine Rt (some 48) (.bin .add) [] none [.d (.str z_6), .d (.str ([91] : List UInt8))] (.d (.str z_7)) [] (cut_cat hz_7) <| Rc 3 [vp [2] 0 8, vw i2.Imm, vu (IntKind.wrap .u32 i2.Imm)] ?_
    obtain ⟨r_6, hr_6, h⟩ := bind_s h
    have hc_6 := bits_Digits_L (IntKind.wrap .u32 i2.Imm) 4 r_6 hr_6
    refine Rt (some 52) (.callf 45) [] none [.u (IntKind.wrap .u32 i2.Imm), .i 4] (.d (.str r_6)) [] (cc hc_6) ?_
    obtain ⟨z_8, hz_8, h⟩ := bind_s h
    refine Rt (some 53) (.bin .add) [] none [.d (.str z_7), .d (.str r_6)] (.d (.str z_8)) [] (cut_cat hz_8) ?_
    obtain ⟨z_9, hz_9, h⟩ := bind_s h
    refine Rt (some 54) (.bin .add) [] none [.d (.str z_8), .d (.str ([93] : List UInt8))] (.d (.str z_9)) [] (cut_cat hz_9) <| Rc 1 [⟨.d (.str z_9), []⟩] <| Rk <| Runs.ret <| kB_ret <| kS_ret ?_
    cases h
    exact Fq
   | false =>
    replace h := ite_f hb_6 h
    refine Cf <| Sq <| Ro <| Rc 2 [vb (t14 == 13), vb (t14 == 13)] <| Rk ?_
    cases hb_7 : ((t14 == 13) : Bool) with
    | true =>
     replace h := ite_t hb_7 h
     refine Ct <| Sq <| Ro <| Rc 1 [⟨.d (.str ahead5), []⟩] ?_
     obtain ⟨z_10, hz_10, h⟩ := bind_s h
     refine Rt (some 58) (.bin .add) [] none [.d (.str ([87, 79, 82, 68, 32] : List UInt8)), .d (.str ahead5)] (.d (.str z_10)) [] (cut_cat hz_10) ?_
     obtain ⟨z_11, hz_11, h⟩ := bind_s h
     refine Rt (some 59) (.bin .add) [] none [.d (.str z_10), .d (.str ([91] : List UInt8))] (.d (.str z_11)) [] (cut_cat hz_11) <| Rc 3 [vp [2] 0 8, vw i2.Imm, vu (IntKind.wrap .u32 i2.Imm)] ?_
     obtain ⟨r_7, hr_7, h⟩ := bind_s h
     have hc_7 := bits_Digits_L (IntKind.wrap .u32 i2.Imm) 4 r_7 hr_7
     refine Rt (some 63) (.callf 45) [] none [.u (IntKind.wrap .u32 i2.Imm), .i 4] (.d (.str r_7)) [] (cc hc_7) ?_
     obtain ⟨z_12, hz_12, h⟩ := bind_s h
     refine Rt (some 64) (.bin .add) [] none [.d (.str z_11), .d (.str r_7)] (.d (.str z_12)) [] (cut_cat hz_12) ?_
     obtain ⟨z_13, hz_13, h⟩ := bind_s h
     refine Rt (some 65) (.bin .add) [] none [.d (.str z_12), .d (.str ([93] : List UInt8))] (.d (.str z_13)) [] (cut_cat hz_13) <| Rc 1 [⟨.d (.str z_13), []⟩] <| Rk <| Runs.ret <| kB_ret <| kS_ret ?_
     cases h
     exact Fq
    | false =>
     replace h := ite_f hb_7 h
     refine Cf <| Sq <| Ro <| Rc 2 [vb (t14 == 14), vb (t14 == 14)] <| Rk ?_
     cases hb_8 : ((t14 == 14) : Bool) with
     | true =>
      replace h := ite_t hb_8 h
      refine Ct <| Sq <| Ro <| Rc 1 [⟨.d (.str ([65, 76] : List UInt8)), []⟩] <| Rk <| Runs.ret <| kB_ret <| kS_ret ?_
      cases h
      exact Fq
     | false =>
      replace h := ite_f hb_8 h
      refine Cf <| Sq <| Ro <| Rc 2 [vb (t14 == 15), vb (t14 == 15)] <| Rk ?_
      cases hb_9 : ((t14 == 15) : Bool) with
      | true =>
       replace h := ite_t hb_9 h
       refine Ct <| Sq <| Ro <| Rc 1 [⟨.d (.str ([67, 76] : List UInt8)), []⟩] <| Rk <| Runs.ret <| kB_ret <| kS_ret ?_
       cases h
       exact Fq
      | false =>
       replace h := ite_f hb_9 h
       refine Cf <| Sq <| Ro <| Rc 2 [vb (t14 == 16), vb (t14 == 16)] <| Rk ?_
       cases hb_10 : ((t14 == 16) : Bool) with
       | true =>
        replace h := ite_t hb_10 h
        refine Ct <| Sq <| Ro <| Rc 1 [⟨.d (.str ([65, 88] : List UInt8)), []⟩] <| Rk <| Runs.ret <| kB_ret <| kS_ret ?_
        cases h
        exact Fq
       | false =>
        replace h := ite_f hb_10 h
        refine Cf <| Sq <| Ro <| Rc 2 [vb (t14 == 17), vb (t14 == 17)] <| Rk ?_
        cases hb_11 : ((t14 == 17) : Bool) with
        | true =>
         replace h := ite_t hb_11 h
         refine Ct <| Sq <| Ro <| Rc 1 [⟨.d (.str ([68, 88] : List UInt8)), []⟩] <| Rk <| Runs.ret <| kB_ret <| kS_ret ?_
         cases h
         exact Fq
        | false =>
         replace h := ite_f hb_11 h
         refine Cf <| Sq <| Ro <| Rc 2 [vb (t14 == 18), vb (t14 == 18)] <| Rk ?_
         cases hb_12 : ((t14 == 18) : Bool) with
         | true =>
          replace h := ite_t hb_12 h
          refine Ct <| Sq <| Ro <| Rc 1 [⟨.d (.str ([49] : List UInt8)), []⟩] <| Rk <| Runs.ret <| kB_ret <| kS_ret ?_
          cases h
          exact Fq
         | false =>
          replace h := ite_f hb_12 h
          refine Cf <| Sq <| Ro <| Rc 2 [vb (t14 == 24), vb (t14 == 24)] <| Rk ?_
          cases hb_13 : ((t14 == 24) : Bool) with
          | true =>
           replace h := ite_t hb_13 h
           refine Ct <| Sq <| Ro <| Rc 1 [⟨.d (.str ([51] : List UInt8)), []⟩] <| Rk <| Runs.ret <| kB_ret <| kS_ret ?_
           cases h
           exact Fq
          | false =>
           replace h := ite_f hb_13 h
           refine Cf <| Sq <| Ro <| Rc 2 [vb (t14 == 21), vb (t14 == 21)] <| Rk ?_
           cases hb_14 : ((t14 == 21) : Bool) with
           | true =>
            replace h := ite_t hb_14 h
            refine Ct <| Sq <| Ro <| Rc 4 [vp [2] 0 3, vy i2.Op, vy (bitsOp .and .u8 i2.Op 7), vi (IntKind.wrap .i64 (bitsOp .and .u8 i2.Op 7))] ?_
            obtain ⟨r_8, hr_8, h⟩ := bind_s h
            have hc_8 := disp_Byte_L (IntKind.wrap .i64 (bitsOp .and .u8 i2.Op 7)) r_8 hr_8
            refine Rt (some 84) (.callf 11) [] none [.i (IntKind.wrap .i64 (bitsOp .and .u8 i2.Op 7))] (.d (.str r_8)) [] (cc hc_8) <| Rc 1 [⟨.d (.str r_8), []⟩] <| Rk <| Runs.ret <| kB_ret <| kS_ret ?_
            cases h
            exact Fq
           | false =>
            replace h := ite_f hb_14 h
            refine Cf <| Sq <| Ro <| Rc 2 [vb (t14 == 22), vb (t14 == 22)] <| Rk ?_
            cases hb_15 : ((t14 == 22) : Bool) with
            | true =>
             replace h := ite_t hb_15 h
             refine Ct <| Sq <| Ro <| Rc 4 [vp [2] 0 3, vy i2.Op, vy (bitsOp .and .u8 i2.Op 7), vi (IntKind.wrap .i64 (bitsOp .and .u8 i2.Op 7))] ?_
             obtain ⟨r_9, hr_9, h⟩ := bind_s h
             have hc_9 := disp_Reg_L (IntKind.wrap .i64 (bitsOp .and .u8 i2.Op 7)) r_9 hr_9
             refine Rt (some 91) (.callf 9) [] none [.i (IntKind.wrap .i64 (bitsOp .and .u8 i2.Op 7))] (.d (.str r_9)) [] (cc hc_9) <| Rc 1 [⟨.d (.str r_9), []⟩] <| Rk <| Runs.ret <| kB_ret <| kS_ret ?_
             cases h
             exact Fq
            | false =>
             replace h := ite_f hb_15 h
             refine Cf <| Sq <| Ro <| Rc 2 [vb (t14 == 23), vb (t14 == 23)] <| Rk ?_
             cases hb_16 : ((t14 == 23) : Bool) with
             | true =>
              replace h := ite_t hb_16 h
              refine Ct <| Sq <| Ro <| Rc 5 [vp [2] 0 3, vy i2.Op, vy (shrI .u8 i2.Op 3), vy (bitsOp .and .u8 (shrI .u8 i2.Op 3) 3), vi (IntKind.wrap .i64 (bitsOp .and .u8 (shrI .u8 i2.Op 3) 3))] ?_
              obtain ⟨r_10, hr_10, h⟩ := bind_s h
              have hc_10 := disp_Seg_L (IntKind.wrap .i64 (bitsOp .and .u8 (shrI .u8 i2.Op 3) 3)) r_10 hr_10
              refine Rt (some 99) (.callf 13) [] none [.i (IntKind.wrap .i64 (bitsOp .and .u8 (shrI .u8 i2.Op 3) 3))] (.d (.str r_10)) [] (cc hc_10) <| Rc 1 [⟨.d (.str r_10), []⟩] <| Rk <| Runs.ret <| kB_ret <| kS_ret ?_
              cases h
              exact Fq
             | false =>
              replace h := ite_f hb_16 h
              refine Cf <| Runs.skip <| kB_nrm <| kS_nrm <| Sq <| Ro <| Rc 1 [⟨.d (.str ([] : List UInt8)), []⟩] <| Rk <| Runs.ret ?_
              cases h
              exact Fq
theorem disp_other_j10_ok (i_ : Inst) (op_ : Int) (i2 : Inst) (op1 : Int) (ahead5 : (List UInt8)) (r : (List UInt8)) (h : disp_other_j10 i2 op1 ahead5 = some r) : Runs L F46b10 (disp_other_h10 i2 op1 ahead5) (disp_other_Q i_ op_ r) := by
 unfold disp_other_j10 at h
 refine Sq <| Sq <| Ro <| Rc 1 [vi op1] <| Rk <| Runs.block <| Sq <| Sq <| Ro <| Rc 2 [vb (op1 == 9), vb (op1 == 9)] <| Rk ?_
 cases hb_2 : ((op1 == 9) : Bool) with
 | true =>
  replace h := ite_t hb_2 h
  refine Ct <| Runs.skip <| kS_nrm <| Runs.canon (disp_other_h20 i2 ahead5 op1 true) Cz ?_
  exact disp_other_j20_ok i_ op_ i2 ahead5 op1 true r h
 | false =>
  replace h := ite_f hb_2 h
  refine Cf <| Ro <| Rc 2 [vb (op1 == 10), vb (op1 == 10)] <| Rk <| Runs.canon (disp_other_h20 i2 ahead5 op1 (op1 == 10)) Cz ?_
  exact disp_other_j20_ok i_ op_ i2 ahead5 op1 (op1 == 10) r h
theorem disp_other_ok (i_ : Inst) (op_ : Int) (r : (List UInt8)) (h : disp_other i_ op_ = some r) : Runs L F46.body ⟨tmOf [.d (Inst.d i_), .i op_] 0, updW (fun _ => none) []⟩ (disp_other_Q i_ op_ r) := by
 unfold disp_other at h
 refine Sq <| Ro <| Rc 2 [⟨.ptr [2] 0 0, [([2], some (.cells [.b i_.Lock, .i i_.Rep, .i i_.Seg, .y i_.Op, .i i_.Mod, .i i_.Reg, .i i_.RM, .w i_.Disp, .w i_.Imm, .w i_.Sel] 0))]⟩, ⟨.d (.str ([] : List UInt8)), []⟩] <| Rk <| Sq <| Ro <| Rc 1 [⟨.d (.str ([] : List UInt8)), []⟩] <| Rk <| Sq <| Sq <| Ro <| Rc 3 [vp [2] 0 2, vi i_.Seg, vb (decide (i_.Seg > 0))] <| Rk ?_
 cases hb_1 : ((decide (i_.Seg > 0)) : Bool) with
 | true =>
  replace h := ite_t hb_1 h
  refine Ct <| Ro <| Rc 3 [vp [2] 0 2, vi i_.Seg, vi (IntKind.wrap .i64 (i_.Seg - 1))] ?_
  obtain ⟨r_1, hr_1, h⟩ := bind_s h
  have hc_1 := disp_Seg_L (IntKind.wrap .i64 (i_.Seg - 1)) r_1 hr_1
  refine Rt (some 12) (.callf 13) [] none [.i (IntKind.wrap .i64 (i_.Seg - 1))] (.d (.str r_1)) [] (cc hc_1) ?_
  obtain ⟨z_1, hz_1, h⟩ := bind_s h
  refine Rt (some 13) (.bin .add) [] none [.d (.str r_1), .d (.str ([58] : List UInt8))] (.d (.str z_1)) [] (cut_cat hz_1) <| Rc 1 [⟨.d (.str z_1), []⟩] <| Rk <| Runs.canon (disp_other_h10 i_ op_ z_1) Cz ?_
  exact disp_other_j10_ok i_ op_ i_ op_ z_1 r h
 | false =>
  replace h := ite_f hb_1 h
  refine Cf <| Runs.skip <| kS_nrm <| Runs.canon (disp_other_h10 i_ op_ ([] : List UInt8)) Cz ?_
  exact disp_other_j10_ok i_ op_ i_ op_ ([] : List UInt8) r h
theorem disp_other_L (i_ : Inst) (op_ : Int) (r : (List UInt8)) (h : disp_other i_ op_ = some r) : L 46 [.d (Inst.d i_), .i op_] = some (.d (.str r), [.d (Inst.d i_), .i op_]) := by
 obtain ⟨p, ⟨hne, hf⟩, hr⟩ := disp_other_ok i_ op_ r h
 obtain ⟨k, hk⟩ := run_of (F := F46) (args := [.d (Inst.d i_), .i op_]) (ap := [.d (Inst.d i_), .i op_]) (bx0 := updW (fun _ => none) []) rfl rfl (by kernel_rfl) ⟨p, ⟨hne, hf⟩, hr⟩
 exact lim_run (k := k) rfl hk
def disp_operand_Q (i_ : Inst) (op_ : Int) (r : (List UInt8)) (p : Out × St) : Prop := (∀ i, p.1 ≠ .exit i) ∧ finF F32 [.d (Inst.d i_), .i op_] p.2 = some (.d (.str r), [.d (Inst.d i_), .i op_])
theorem disp_operand_ok (i_ : Inst) (op_ : Int) (r : (List UInt8)) (h : disp_operand i_ op_ = some r) : Runs L F32.body ⟨tmOf [.d (Inst.d i_), .i op_] 0, updW (fun _ => none) []⟩ (disp_operand_Q i_ op_ r) := by
 unfold disp_operand at h
 refine Sq <| Ro <| Rc 2 [⟨.ptr [2] 0 0, [([2], some (.cells [.b i_.Lock, .i i_.Rep, .i i_.Seg, .y i_.Op, .i i_.Mod, .i i_.Reg, .i i_.RM, .w i_.Disp, .w i_.Imm, .w i_.Sel] 0))]⟩, ⟨.d (.str ([] : List UInt8)), []⟩] <| Rk <| Sq <| Sq <| Ro <| Rc 1 [vi op_] <| Rk <| Runs.block <| Sq <| Ro <| Rc 2 [vb (op_ == 1), vb (op_ == 1)] <| Rk ?_
 cases hb_1 : ((op_ == 1) : Bool) with
 | true =>
  replace h := ite_t hb_1 h
  refine Ct <| Sq <| Sq <| Ro <| Rc 3 [vp [2] 0 4, vi i_.Mod, vb (i_.Mod == 3)] <| Rk ?_
  cases hb_2 : ((i_.Mod == 3) : Bool) with
  | true =>
   replace h := ite_t hb_2 h
   refine Ct <| Sq <| Ro <| Rc 2 [vp [2] 0 6, vi i_.RM] ?_
   obtain ⟨r_1, hr_1, h⟩ := bind_s h
   have hc_1 := disp_Byte_L i_.RM r_1 hr_1
   refine Rt (some 13) (.callf 11) [] none [.i i_.RM] (.d (.str r_1)) [] (cc hc_1) <| Rc 1 [⟨.d (.str r_1), []⟩] <| Rk <| Runs.ret <| kS_ret <| kB_ret <| kS_ret ?_
   cases h
   exact Fq
  | false =>
   replace h := ite_f hb_2 h
   refine Cf <| Runs.skip <| kS_nrm <| Sq <| Ro <| Rc 1 [⟨.d (Inst.d i_), []⟩] ?_
   obtain ⟨r_2, hr_2, h⟩ := bind_s h
   have hc_2 := disp_place_L i_ r_2 hr_2
   refine Rt (some 15) (.callf 44) [] none [.d (Inst.d i_)] (.d (.str r_2)) [] (cc hc_2) ?_
   obtain ⟨z_1, hz_1, h⟩ := bind_s h
   refine Rt (some 16) (.bin .add) [] none [.d (.str ([66, 89, 84, 69, 32] : List UInt8)), .d (.str r_2)] (.d (.str z_1)) [] (cut_cat hz_1) <| Rc 1 [⟨.d (.str z_1), []⟩] <| Rk <| Runs.ret <| kB_ret <| kS_ret ?_
   cases h
   exact Fq
 | false =>
  replace h := ite_f hb_1 h
  refine Cf <| Sq <| Ro <| Rc 2 [vb (op_ == 2), vb (op_ == 2)] <| Rk ?_
  cases hb_3 : ((op_ == 2) : Bool) with
  | true =>
   replace h := ite_t hb_3 h
   refine Ct <| Sq <| Sq <| Ro <| Rc 3 [vp [2] 0 4, vi i_.Mod, vb (i_.Mod == 3)] <| Rk ?_
   cases hb_4 : ((i_.Mod == 3) : Bool) with
   | true =>
    replace h := ite_t hb_4 h
    refine Ct <| Sq <| Ro <| Rc 2 [vp [2] 0 6, vi i_.RM] ?_
    obtain ⟨r_3, hr_3, h⟩ := bind_s h
    have hc_3 := disp_Reg_L i_.RM r_3 hr_3
    refine Rt (some 24) (.callf 9) [] none [.i i_.RM] (.d (.str r_3)) [] (cc hc_3) <| Rc 1 [⟨.d (.str r_3), []⟩] <| Rk <| Runs.ret <| kS_ret <| kB_ret <| kS_ret ?_
    cases h
    exact Fq
   | false =>
    replace h := ite_f hb_4 h
    refine Cf <| Runs.skip <| kS_nrm <| Sq <| Ro <| Rc 1 [⟨.d (Inst.d i_), []⟩] ?_
    obtain ⟨r_4, hr_4, h⟩ := bind_s h
    have hc_4 := disp_place_L i_ r_4 hr_4
    refine Rt (some 26) (.callf 44) [] none [.d (Inst.d i_)] (.d (.str r_4)) [] (cc hc_4) ?_
    obtain ⟨z_2, hz_2, h⟩ := bind_s h
    refine Rt (some 27) (.bin .add) [] none [.d (.str ([87, 79, 82, 68, 32] : List UInt8)), .d (.str r_4)] (.d (.str z_2)) [] (cut_cat hz_2) <| Rc 1 [⟨.d (.str z_2), []⟩] <| Rk <| Runs.ret <| kB_ret <| kS_ret ?_
    cases h
    exact Fq
  | false =>
   replace h := ite_f hb_3 h
   refine Cf <| Sq <| Ro <| Rc 2 [vb (op_ == 19), vb (op_ == 19)] <| Rk ?_
   cases hb_5 : ((op_ == 19) : Bool) with
   | true =>
    replace h := ite_t hb_5 h
    refine Ct <| Sq <| Ro <| Rc 1 [⟨.d (Inst.d i_), []⟩] ?_
    obtain ⟨r_5, hr_5, h⟩ := bind_s h
    have hc_5 := disp_place_L i_ r_5 hr_5
    refine Rt (some 31) (.callf 44) [] none [.d (Inst.d i_)] (.d (.str r_5)) [] (cc hc_5) ?_
    obtain ⟨z_3, hz_3, h⟩ := bind_s h
    refine Rt (some 32) (.bin .add) [] none [.d (.str ([70, 65, 82, 32] : List UInt8)), .d (.str r_5)] (.d (.str z_3)) [] (cut_cat hz_3) <| Rc 1 [⟨.d (.str z_3), []⟩] <| Rk <| Runs.ret <| kB_ret <| kS_ret ?_
    cases h
    exact Fq
   | false =>
    replace h := ite_f hb_5 h
    refine Cf <| Sq <| Ro <| Rc 2 [vb (op_ == 20), vb (op_ == 20)] <| Rk ?_
    cases hb_6 : ((op_ == 20) : Bool) with
    | true =>
     replace h := ite_t hb_6 h
     refine Ct <| Sq <| Ro <| Rc 1 [⟨.d (Inst.d i_), []⟩] ?_
     obtain ⟨r_6, hr_6, h⟩ := bind_s h
     have hc_6 := disp_place_L i_ r_6 hr_6
     refine Rt (some 36) (.callf 44) [] none [.d (Inst.d i_)] (.d (.str r_6)) [] (cc hc_6) <| Rc 1 [⟨.d (.str r_6), []⟩] <| Rk <| Runs.ret <| kB_ret <| kS_ret ?_
     cases h
     exact Fq
    | false =>
     replace h := ite_f hb_6 h
     refine Cf <| Sq <| Ro <| Rc 2 [vb (op_ == 3), vb (op_ == 3)] <| Rk ?_
     cases hb_7 : ((op_ == 3) : Bool) with
     | true =>
      replace h := ite_t hb_7 h
      refine Ct <| Sq <| Ro <| Rc 2 [vp [2] 0 5, vi i_.Reg] ?_
      obtain ⟨r_7, hr_7, h⟩ := bind_s h
      have hc_7 := disp_Byte_L i_.Reg r_7 hr_7
      refine Rt (some 41) (.callf 11) [] none [.i i_.Reg] (.d (.str r_7)) [] (cc hc_7) <| Rc 1 [⟨.d (.str r_7), []⟩] <| Rk <| Runs.ret <| kB_ret <| kS_ret ?_
      cases h
      exact Fq
     | false =>
      replace h := ite_f hb_7 h
      refine Cf <| Sq <| Ro <| Rc 2 [vb (op_ == 4), vb (op_ == 4)] <| Rk ?_
      cases hb_8 : ((op_ == 4) : Bool) with
      | true =>
       replace h := ite_t hb_8 h
       refine Ct <| Sq <| Ro <| Rc 2 [vp [2] 0 5, vi i_.Reg] ?_
       obtain ⟨r_8, hr_8, h⟩ := bind_s h
       have hc_8 := disp_Reg_L i_.Reg r_8 hr_8
       refine Rt (some 46) (.callf 9) [] none [.i i_.Reg] (.d (.str r_8)) [] (cc hc_8) <| Rc 1 [⟨.d (.str r_8), []⟩] <| Rk <| Runs.ret <| kB_ret <| kS_ret ?_
       cases h
       exact Fq
      | false =>
       replace h := ite_f hb_8 h
       refine Cf <| Sq <| Ro <| Rc 2 [vb (op_ == 5), vb (op_ == 5)] <| Rk ?_
       cases hb_9 : ((op_ == 5) : Bool) with
       | true =>
        replace h := ite_t hb_9 h
        refine Ct <| Sq <| Ro <| Rc 2 [vp [2] 0 5, vi i_.Reg] ?_
        obtain ⟨r_9, hr_9, h⟩ := bind_s h
        have hc_9 := disp_Seg_L i_.Reg r_9 hr_9
        refine Rt (some 51) (.callf 13) [] none [.i i_.Reg] (.d (.str r_9)) [] (cc hc_9) <| Rc 1 [⟨.d (.str r_9), []⟩] <| Rk <| Runs.ret <| kB_ret <| kS_ret ?_
        cases h
        exact Fq
       | false =>
        replace h := ite_f hb_9 h
        refine Cf <| Sq <| Ro <| Rc 2 [vb (op_ == 6), vb (op_ == 6)] <| Rk ?_
        cases hb_10 : ((op_ == 6) : Bool) with
        | true =>
         replace h := ite_t hb_10 h
         refine Ct <| Sq <| Ro <| Rc 3 [vp [2] 0 8, vw i_.Imm, vu (IntKind.wrap .u32 i_.Imm)] ?_
         obtain ⟨r_10, hr_10, h⟩ := bind_s h
         have hc_10 := bits_Digits_L (IntKind.wrap .u32 i_.Imm) 2 r_10 hr_10
         refine Rt (some 57) (.callf 45) [] none [.u (IntKind.wrap .u32 i_.Imm), .i 2] (.d (.str r_10)) [] (cc hc_10) <| Rc 1 [⟨.d (.str r_10), []⟩] <| Rk <| Runs.ret <| kB_ret <| kS_ret ?_
         cases h
         exact Fq
        | false =>
         replace h := ite_f hb_10 h
         refine Cf <| Sq <| Sq <| Ro <| Rc 2 [vb (op_ == 7), vb (op_ == 7)] <| Rk ?_
         cases hb_11 : ((op_ == 7) : Bool) with
         | true =>
          replace h := ite_t hb_11 h
          refine Ct <| Runs.skip <| kS_nrm <| Ct <| Sq <| Ro <| Rc 3 [vp [2] 0 8, vw i_.Imm, vu (IntKind.wrap .u32 i_.Imm)] ?_
          obtain ⟨r_11, hr_11, h⟩ := bind_s h
          have hc_11 := bits_Digits_L (IntKind.wrap .u32 i_.Imm) 4 r_11 hr_11
          refine Rt (some 64) (.callf 45) [] none [.u (IntKind.wrap .u32 i_.Imm), .i 4] (.d (.str r_11)) [] (cc hc_11) <| Rc 1 [⟨.d (.str r_11), []⟩] <| Rk <| Runs.ret <| kB_ret <| kS_ret ?_
          cases h
          exact Fq
         | false =>
          replace h := ite_f hb_11 h
          refine Cf <| Ro <| Rc 2 [vb (op_ == 8), vb (op_ == 8)] <| Rk ?_
          cases hb_12 : ((op_ == 8) : Bool) with
          | true =>
           replace h := ite_t hb_12 h
           refine Ct <| Sq <| Ro <| Rc 3 [vp [2] 0 8, vw i_.Imm, vu (IntKind.wrap .u32 i_.Imm)] ?_
           obtain ⟨r_12, hr_12, h⟩ := bind_s h
           have hc_12 := bits_Digits_L (IntKind.wrap .u32 i_.Imm) 4 r_12 hr_12
           refine Rt (some 64) (.callf 45) [] none [.u (IntKind.wrap .u32 i_.Imm), .i 4] (.d (.str r_12)) [] (cc hc_12) <| Rc 1 [⟨.d (.str r_12), []⟩] <| Rk <| Runs.ret <| kB_ret <| kS_ret ?_
           cases h
           exact Fq
          | false =>
           replace h := ite_f hb_12 h
           refine Cf <| Runs.skip <| kB_nrm <| kS_nrm <| Sq <| Ro <| Rc 2 [⟨.d (Inst.d i_), []⟩, vi op_] ?_
           obtain ⟨r_13, hr_13, h⟩ := bind_s h
           have hc_13 := disp_other_L i_ op_ r_13 hr_13
           refine Rt (some 67) (.callf 46) [] none [.d (Inst.d i_), .i op_] (.d (.str r_13)) [] (cc hc_13) <| Rc 1 [⟨.d (.str r_13), []⟩] <| Rk <| Runs.ret ?_
           cases h
           exact Fq
theorem disp_operand_L (i_ : Inst) (op_ : Int) (r : (List UInt8)) (h : disp_operand i_ op_ = some r) : L 32 [.d (Inst.d i_), .i op_] = some (.d (.str r), [.d (Inst.d i_), .i op_]) := by
 obtain ⟨p, ⟨hne, hf⟩, hr⟩ := disp_operand_ok i_ op_ r h
 obtain ⟨k, hk⟩ := run_of (F := F32) (args := [.d (Inst.d i_), .i op_]) (ap := [.d (Inst.d i_), .i op_]) (bx0 := updW (fun _ => none) []) rfl rfl (by kernel_rfl) ⟨p, ⟨hne, hf⟩, hr⟩
 exact lim_run (k := k) rfl hk
def disp_Text_h20 (i1 : Inst) (r3 : Row) (s5 : (List UInt8)) : St := ⟨tab [(1, .ptr [1] 0 0), (3, .ptr [3] 0 0), (5, .d (.str s5))], tabB [([1], some (.cells [.b i1.Lock, .i i1.Rep, .i i1.Seg, .y i1.Op, .i i1.Mod, .i i1.Reg, .i i1.RM, .w i1.Disp, .w i1.Imm, .w i1.Sel] 0)), ([3], some (.cells [.i r3.Name, .i r3.A, .i r3.B, .b r3.Mod] 0))]⟩
def disp_Text_h28 (i1 : Inst) (r3 : Row) (s5 : (List UInt8)) : St := ⟨tab [(1, .ptr [1] 0 0), (3, .ptr [3] 0 0), (5, .d (.str s5))], tabB [([1], some (.cells [.b i1.Lock, .i i1.Rep, .i i1.Seg, .y i1.Op, .i i1.Mod, .i i1.Reg, .i i1.RM, .w i1.Disp, .w i1.Imm, .w i1.Sel] 0)), ([3], some (.cells [.i r3.Name, .i r3.A, .i r3.B, .b r3.Mod] 0))]⟩
def disp_Text_Q (i_ : Inst) (r : (List UInt8)) (p : Out × St) : Prop := (∀ i, p.1 ≠ .exit i) ∧ finF F17 [.d (Inst.d i_)] p.2 = some (.d (.str r), [.d (Inst.d i_)])
theorem disp_Text_j28_ok (i_ : Inst) (i1 : Inst) (r3 : Row) (s5 : (List UInt8)) (r : (List UInt8)) (h : disp_Text_j28 i1 r3 s5 = some r) : Runs L F17b28 (disp_Text_h28 i1 r3 s5) (disp_Text_Q i_ r) := by
 unfold disp_Text_j28 at h
 refine Sq <| Sq <| Ro <| Rc 3 [⟨.d (Inst.d i1), []⟩, vp [3] 0 2, vi r3.B] ?_
 obtain ⟨r_5, hr_5, h⟩ := bind_s h
 have hc_5 := disp_operand_L i1 r3.B r_5 hr_5
 refine Rt (some 41) (.callf 32) [] none [.d (Inst.d i1), .i r3.B] (.d (.str r_5)) [] (cc hc_5) <| Rc 1 [⟨.d (.str r_5), []⟩] <| Rk <| Sq <| Ro <| Rc 2 [⟨.d (.str r_5), []⟩, vb (r_5 != ([] : List UInt8))] <| Rk ?_
 cases hb_4 : ((r_5 != ([] : List UInt8)) : Bool) with
 | true =>
  replace h := ite_t hb_4 h
  refine Ct <| Ro <| Rc 2 [⟨.d (.str s5), []⟩, ⟨.d (.str r_5), []⟩] ?_
  obtain ⟨z_6, hz_6, h⟩ := bind_s h
  refine Rt (some 46) (.bin .add) [] none [.d (.str ([44] : List UInt8)), .d (.str r_5)] (.d (.str z_6)) [] (cut_cat hz_6) ?_
  obtain ⟨z_7, hz_7, h⟩ := bind_s h
  refine Rt (some 47) (.bin .add) [] none [.d (.str s5), .d (.str z_6)] (.d (.str z_7)) [] (cut_cat hz_7) <| Rc 1 [⟨.d (.str z_7), []⟩] <| Rk <| Sq <| Ro <| Rc 2 [⟨.d (.str z_7), []⟩, ⟨.d (.str z_7), []⟩] <| Rk <| Runs.ret ?_
  cases h
  exact Fq
 | false =>
  replace h := ite_f hb_4 h
  refine Cf <| Runs.skip <| kS_nrm <| Sq <| Ro <| Rc 2 [⟨.d (.str s5), []⟩, ⟨.d (.str s5), []⟩] <| Rk <| Runs.ret ?_
  cases h
  exact Fq
theorem disp_Text_j20_ok (i_ : Inst) (i1 : Inst) (r3 : Row) (s5 : (List UInt8)) (r : (List UInt8)) (h : disp_Text_j20 i1 r3 s5 = some r) : Runs L F17b20 (disp_Text_h20 i1 r3 s5) (disp_Text_Q i_ r) := by
 unfold disp_Text_j20 at h
 refine Sq <| Sq <| Ro <| Rc 3 [⟨.d (Inst.d i1), []⟩, vp [3] 0 1, vi r3.A] ?_
 obtain ⟨r_4, hr_4, h⟩ := bind_s h
 have hc_4 := disp_operand_L i1 r3.A r_4 hr_4
 refine Rt (some 31) (.callf 32) [] none [.d (Inst.d i1), .i r3.A] (.d (.str r_4)) [] (cc hc_4) <| Rc 1 [⟨.d (.str r_4), []⟩] <| Rk <| Sq <| Ro <| Rc 2 [⟨.d (.str r_4), []⟩, vb (r_4 != ([] : List UInt8))] <| Rk ?_
 cases hb_3 : ((r_4 != ([] : List UInt8)) : Bool) with
 | true =>
  replace h := ite_t hb_3 h
  refine Ct <| Ro <| Rc 2 [⟨.d (.str s5), []⟩, ⟨.d (.str r_4), []⟩] ?_
  obtain ⟨z_4, hz_4, h⟩ := bind_s h
  refine Rt (some 36) (.bin .add) [] none [.d (.str ([32] : List UInt8)), .d (.str r_4)] (.d (.str z_4)) [] (cut_cat hz_4) ?_
  obtain ⟨z_5, hz_5, h⟩ := bind_s h
  refine Rt (some 37) (.bin .add) [] none [.d (.str s5), .d (.str z_4)] (.d (.str z_5)) [] (cut_cat hz_5) <| Rc 1 [⟨.d (.str z_5), []⟩] <| Rk <| Runs.canon (disp_Text_h28 i1 r3 z_5) Cz ?_
  exact disp_Text_j28_ok i_ i1 r3 z_5 r h
 | false =>
  replace h := ite_f hb_3 h
  refine Cf <| Runs.skip <| kS_nrm <| Runs.canon (disp_Text_h28 i1 r3 s5) Cz ?_
  exact disp_Text_j28_ok i_ i1 r3 s5 r h
theorem disp_Text_ok (i_ : Inst) (r : (List UInt8)) (h : disp_Text i_ = some r) : Runs L F17.body ⟨tmOf [.d (Inst.d i_)] 0, updW (fun _ => none) []⟩ (disp_Text_Q i_ r) := by
 unfold disp_Text at h
 refine Sq <| Ro <| Rc 2 [⟨.ptr [1] 0 0, [([1], some (.cells [.b i_.Lock, .i i_.Rep, .i i_.Seg, .y i_.Op, .i i_.Mod, .i i_.Reg, .i i_.RM, .w i_.Disp, .w i_.Imm, .w i_.Sel] 0))]⟩, ⟨.d (.str ([] : List UInt8)), []⟩] <| Rk <| Sq <| Sq <| Ro <| Rc 1 [⟨.d (Inst.d i_), []⟩] ?_
 obtain ⟨r_1, hr_1, h⟩ := bind_s h
 have hc_1 := inst_May_L i_ r_1 hr_1
 refine Rt (some 9) (.callf 30) [] none [.d (Inst.d i_)] (.b r_1) [] (cc hc_1) <| Rc 1 [vb (!r_1)] <| Rk ?_
 cases hb_1 : ((!r_1) : Bool) with
 | true =>
  replace h := ite_t hb_1 h
  refine Ct <| Sq <| Ro <| Rc 1 [⟨.d (.str ([63] : List UInt8)), []⟩] <| Rk <| Runs.ret <| kS_ret ?_
  cases h
  exact Fq
 | false =>
  replace h := ite_f hb_1 h
  refine Cf <| Runs.skip <| kS_nrm <| Sq <| Ro <| Rc 1 [⟨.d (Inst.d i_), []⟩] ?_
  obtain ⟨r_2, hr_2, h⟩ := bind_s h
  have hc_2 := inst_Row_L i_ r_2 hr_2
  refine Rt (some 13) (.callf 31) [] none [.d (Inst.d i_)] (.tup [.d (Row.d r_2.1), .b r_2.2]) [] (cc hc_2) <| Rc 6 [⟨.tup [.d (Row.d r_2.1), .b r_2.2], []⟩, ⟨.d (Row.d r_2.1), []⟩, vb r_2.2, ⟨.ptr [3] 0 0, [([3], some (.cells [.i 0, .i 0, .i 0, .b false] 0))]⟩, ⟨.tup [], [([3], some (.cells [.i r_2.1.Name, .i r_2.1.A, .i r_2.1.B, .b r_2.1.Mod] 0))]⟩, vb r_2.2] <| Rk <| Sq <| Ro <| Rc 3 [⟨.d (.agg [.str ([] : List UInt8), .str ([82, 69, 80, 78, 69, 32] : List UInt8), .str ([82, 69, 80, 32] : List UInt8)]), []⟩, vp [1] 0 1, vi i_.Rep] ?_
  obtain ⟨z_1, hz_1, h⟩ := bind_s h
  refine Rt (some 19) (.indexA 3 1 none) [] none [.d (.agg [.str ([] : List UInt8), .str ([82, 69, 80, 78, 69, 32] : List UInt8), .str ([82, 69, 80, 32] : List UInt8)]), .i i_.Rep] (.d (.str z_1)) [] (cut_ixA (e := D.str) (l := ({ a0 := ([] : List UInt8), a1 := ([82, 69, 80, 78, 69, 32] : List UInt8), a2 := ([82, 69, 80, 32] : List UInt8) } : (A3 (List UInt8))).l) hz_1 rfl) <| Rc 2 [vp [3] 0 0, vi r_2.1.Name] ?_
  obtain ⟨r_3, hr_3, h⟩ := bind_s h
  have hc_3 := disp_Name_L r_2.1.Name r_3 hr_3
  refine Rt (some 22) (.callf 7) [] (some []) [.i r_2.1.Name] (.d (.str r_3)) [] (cc hc_3) ?_
  obtain ⟨z_2, hz_2, h⟩ := bind_s h
  refine Rt (some 23) (.bin .add) [] none [.d (.str z_1), .d (.str r_3)] (.d (.str z_2)) [] (cut_cat hz_2) <| Rc 1 [⟨.d (.str z_2), []⟩] <| Rk <| Sq <| Sq <| Ro <| Rc 2 [vp [1] 0 0, vb i_.Lock] <| Rk ?_
  cases hb_2 : (i_.Lock : Bool) with
  | true =>
   replace h := ite_t hb_2 h
   refine Ct <| Ro <| Rc 1 [⟨.d (.str z_2), []⟩] ?_
   obtain ⟨z_3, hz_3, h⟩ := bind_s h
   refine Rt (some 27) (.bin .add) [] none [.d (.str ([76, 79, 67, 75, 32] : List UInt8)), .d (.str z_2)] (.d (.str z_3)) [] (cut_cat hz_3) <| Rc 1 [⟨.d (.str z_3), []⟩] <| Rk <| Runs.canon (disp_Text_h20 ({ i_ with Lock := true } : Inst) r_2.1 z_3) Cz ?_
   exact disp_Text_j20_ok i_ ({ i_ with Lock := true } : Inst) r_2.1 z_3 r h
  | false =>
   replace h := ite_f hb_2 h
   refine Cf <| Runs.skip <| kS_nrm <| Runs.canon (disp_Text_h20 ({ i_ with Lock := false } : Inst) r_2.1 z_2) Cz ?_
   exact disp_Text_j20_ok i_ ({ i_ with Lock := false } : Inst) r_2.1 z_2 r h
theorem disp_Text_L (i_ : Inst) (r : (List UInt8)) (h : disp_Text i_ = some r) : L 17 [.d (Inst.d i_)] = some (.d (.str r), [.d (Inst.d i_)]) := by
 obtain ⟨p, ⟨hne, hf⟩, hr⟩ := disp_Text_ok i_ r h
 obtain ⟨k, hk⟩ := run_of (F := F17) (args := [.d (Inst.d i_)]) (ap := [.d (Inst.d i_)]) (bx0 := updW (fun _ => none) []) rfl rfl (by kernel_rfl) ⟨p, ⟨hne, hf⟩, hr⟩
 exact lim_run (k := k) rfl hk
def disp_Find_h6 (s0 : (List UInt8)) (t5 : (List (List UInt8))) (t6 : Int) (t7 : Int) : St := ⟨tab [(0, .d (.str s0)), (5, .d (.sl (List.map D.str t5))), (6, .i t6), (7, .i t7)], tabB []⟩
def disp_Find_h25  : St := ⟨tab [], tabB []⟩
def disp_Find_Q (s_ : (List UInt8)) (r : Int) (p : Out × St) : Prop := (∀ i, p.1 ≠ .exit i) ∧ finF F5 [.d (.str s_)] p.2 = some (.i r, [.d (.str s_)])
def disp_Find_P6 (s_ : (List UInt8)) (s0 : (List UInt8)) (t5 : (List (List UInt8))) (t6 : Int) (e : (Int ⊕ Unit)) (p : Out × St) : Prop := match e with
 | .inl x => p.1 = .ret ∧ finF F5 [.d (.str s_)] p.2 = some (.i x, [.d (.str s_)])
 | .inr x => p.1 = .exit 0 ∧ ∃ g : Unit, Canon [] [] [] p.2 (disp_Find_h25)
theorem disp_Find_l6_ok (s_ : (List UInt8)) (s0 : (List UInt8)) (t5 : (List (List UInt8))) (t6 : Int) (t7 : Int) (r : (Lp Int (Int ⊕ Unit))) (h : disp_Find_l6 s0 t5 t6 t7 = some r) : Runs L F5l6 (disp_Find_h6 s0 t5 t6 t7) (LQ [.frz 5] [0, 5, 6, 7] [] (fun (x : Int) (g : Unit) => disp_Find_h6 s0 t5 t6 x) (disp_Find_P6 s_ s0 t5 t6) r) := by
 unfold disp_Find_l6 at h
 refine Sq <| Ro <| Rc 1 [vb (decide (t7 < t6))] <| Rk <| Sq ?_
 cases hb_1 : ((decide (t7 < t6)) : Bool) with
 | true =>
  replace h := ite_t hb_1 h
  refine Ct <| Runs.skip <| kS_nrm <| Sq <| Runs.block <| Sq <| Ro <| Rc 1 [vi t7] ?_
  obtain ⟨z_1, hz_1, h⟩ := bind_s h
  refine Rt (some 10) (.iaddrS 1) [] none [.d (.sl (List.map D.str t5)), .i t7] (.elt (.str z_1) 0) [] (cut_at hz_1 (fun _ => rfl)) <| Rc 3 [⟨.d (.str z_1), []⟩, vi t7, ⟨.d (.str z_1), []⟩] <| Rk <| Sq <| Ro <| Rc 3 [⟨.d (.str z_1), []⟩, ⟨.d (.str s0), []⟩, vb (z_1 == s0)] <| Rk ?_
  cases hb_2 : ((z_1 == s0) : Bool) with
  | true =>
   replace h := ite_t hb_2 h
   refine Ct <| Sq <| Ro <| Rc 3 [vi t7, vi (IntKind.wrap .i64 (t7 + 1)), vi (IntKind.wrap .i64 (t7 + 1))] <| Rk <| Runs.ret <| kB_ret <| kS_ret ?_
   obtain rfl := sj h
   exact ⟨nofun, rfl, (by kernel_rfl)⟩
  | false =>
   replace h := ite_f hb_2 h
   refine Cf <| Runs.skip <| kB_nrm <| kS_nrm <| Ro <| Rc 2 [vi (IntKind.wrap .i64 (t7 + 1)), vi (IntKind.wrap .i64 (t7 + 1))] <| Rd ?_
   obtain rfl := sj h
   exact ⟨rfl, (), (Canon.same (by kernel_rfl) Cz)⟩
 | false =>
  replace h := ite_f hb_1 h
  refine Cf <| Runs.exit <| kS_exit ?_
  obtain rfl := sj h
  exact ⟨nofun, rfl, (), Cz⟩
theorem disp_Find_ok (s_ : (List UInt8)) (r : Int) (h : disp_Find s_ = some r) : Runs L F5.body ⟨tmOf [.d (.str s_)] 0, updW (fun _ => none) []⟩ (disp_Find_Q s_ r) := by
 unfold disp_Find at h
 refine Sq <| Ro <| Rc 1 [vi 0] <| Rk <| Sq <| Sq <| Ro ?_
 obtain ⟨r_1, hr_1, h⟩ := bind_s h
 have hc_1 := strings_Fields_L ([65, 68, 68, 32, 79, 82, 32, 65, 68, 67, 32, 83, 66, 66, 32, 65, 78, 68, 32, 83, 85, 66, 32, 88, 79, 82, 32, 67, 77, 80, 32, 80, 85, 83, 72, 32, 80, 79, 80, 32, 68, 65, 65, 32, 68, 65, 83, 32, 65, 65, 65, 32, 65, 65, 83, 32, 73, 78, 67, 32, 68, 69, 67, 32, 74, 79, 32, 74, 78, 79, 32, 74, 66, 32, 74, 78, 66, 32, 74, 90, 32, 74, 78, 90, 32, 74, 66, 69, 32, 74, 65, 32, 74, 83, 32, 74, 78, 83, 32, 74, 80, 32, 74, 78, 80, 32, 74, 76, 32, 74, 71, 69, 32, 74, 76, 69, 32, 74, 71, 32, 84, 69, 83, 84, 32, 88, 67, 72, 71, 32, 77, 79, 86, 32, 76, 69, 65, 32, 67, 66, 87, 32, 67, 87, 68, 32, 67, 65, 76, 76, 32, 67, 65, 76, 76, 70, 32, 87, 65, 73, 84, 32, 80, 85, 83, 72, 70, 32, 80, 79, 80, 70, 32, 83, 65, 72, 70, 32, 76, 65, 72, 70, 32, 77, 79, 86, 83, 66, 32, 77, 79, 86, 83, 87, 32, 67, 77, 80, 83, 66, 32, 67, 77, 80, 83, 87, 32, 83, 84, 79, 83, 66, 32, 83, 84, 79, 83, 87, 32, 76, 79, 68, 83, 66, 32, 76, 79, 68, 83, 87, 32, 83, 67, 65, 83, 66, 32, 83, 67, 65, 83, 87, 32, 82, 69, 84, 32, 82, 69, 84, 70, 32, 76, 69, 83, 32, 76, 68, 83, 32, 73, 78, 84, 32, 73, 78, 84, 79, 32, 73, 82, 69, 84, 32, 82, 79, 76, 32, 82, 79, 82, 32, 82, 67, 76, 32, 82, 67, 82, 32, 83, 72, 76, 32, 83, 72, 82, 32, 83, 65, 82, 32, 65, 65, 77, 32, 65, 65, 68, 32, 88, 76, 65, 84, 32, 69, 83, 67, 32, 76, 79, 79, 80, 78, 90, 32, 76, 79, 79, 80, 90, 32, 76, 79, 79, 80, 32, 74, 67, 88, 90, 32, 73, 78, 32, 79, 85, 84, 32, 74, 77, 80, 32, 74, 77, 80, 70, 32, 72, 76, 84, 32, 67, 77, 67, 32, 78, 79, 84, 32, 78, 69, 71, 32, 77, 85, 76, 32, 73, 77, 85, 76, 32, 68, 73, 86, 32, 73, 68, 73, 86, 32, 67, 76, 67, 32, 83, 84, 67, 32, 67, 76, 73, 32, 83, 84, 73, 32, 67, 76, 68, 32, 83, 84, 68] : List UInt8) r_1 hr_1
 refine Rt (some 5) (.callf 19) [] none [.d (.str ([65, 68, 68, 32, 79, 82, 32, 65, 68, 67, 32, 83, 66, 66, 32, 65, 78, 68, 32, 83, 85, 66, 32, 88, 79, 82, 32, 67, 77, 80, 32, 80, 85, 83, 72, 32, 80, 79, 80, 32, 68, 65, 65, 32, 68, 65, 83, 32, 65, 65, 65, 32, 65, 65, 83, 32, 73, 78, 67, 32, 68, 69, 67, 32, 74, 79, 32, 74, 78, 79, 32, 74, 66, 32, 74, 78, 66, 32, 74, 90, 32, 74, 78, 90, 32, 74, 66, 69, 32, 74, 65, 32, 74, 83, 32, 74, 78, 83, 32, 74, 80, 32, 74, 78, 80, 32, 74, 76, 32, 74, 71, 69, 32, 74, 76, 69, 32, 74, 71, 32, 84, 69, 83, 84, 32, 88, 67, 72, 71, 32, 77, 79, 86, 32, 76, 69, 65, 32, 67, 66, 87, 32, 67, 87, 68, 32, 67, 65, 76, 76, 32, 67, 65, 76, 76, 70, 32, 87, 65, 73, 84, 32, 80, 85, 83, 72, 70, 32, 80, 79, 80, 70, 32, 83, 65, 72, 70, 32, 76, 65, 72, 70, 32, 77, 79, 86, 83, 66, 32, 77, 79, 86, 83, 87, 32, 67, 77, 80, 83, 66, 32, 67, 77, 80, 83, 87, 32, 83, 84, 79, 83, 66, 32, 83, 84, 79, 83, 87, 32, 76, 79, 68, 83, 66, 32, 76, 79, 68, 83, 87, 32, 83, 67, 65, 83, 66, 32, 83, 67, 65, 83, 87, 32, 82, 69, 84, 32, 82, 69, 84, 70, 32, 76, 69, 83, 32, 76, 68, 83, 32, 73, 78, 84, 32, 73, 78, 84, 79, 32, 73, 82, 69, 84, 32, 82, 79, 76, 32, 82, 79, 82, 32, 82, 67, 76, 32, 82, 67, 82, 32, 83, 72, 76, 32, 83, 72, 82, 32, 83, 65, 82, 32, 65, 65, 77, 32, 65, 65, 68, 32, 88, 76, 65, 84, 32, 69, 83, 67, 32, 76, 79, 79, 80, 78, 90, 32, 76, 79, 79, 80, 90, 32, 76, 79, 79, 80, 32, 74, 67, 88, 90, 32, 73, 78, 32, 79, 85, 84, 32, 74, 77, 80, 32, 74, 77, 80, 70, 32, 72, 76, 84, 32, 67, 77, 67, 32, 78, 79, 84, 32, 78, 69, 71, 32, 77, 85, 76, 32, 73, 77, 85, 76, 32, 68, 73, 86, 32, 73, 68, 73, 86, 32, 67, 76, 67, 32, 83, 84, 67, 32, 67, 76, 73, 32, 83, 84, 73, 32, 67, 76, 68, 32, 83, 84, 68] : List UInt8))] (.ref [5] 0 0 (List.map D.str r_1).length 1) [([5], some (.arr (List.map D.str r_1) 0 false))] (cut_call (call_of (ws := []) (us := []) (by kernel_rfl) (gives_cons (ws := []) (give_same (by kernel_rfl)) gives_nil) hc_1 (by kernel_rfl) (by kernel_rfl))) ?_
 refine Rt (some 6) .lenL [] none [.ref [5] 0 0 (List.map D.str r_1).length 1] (.i (r_1.length : Int)) [] (cut_lenR (e := D.str) r_1 rfl) <| Rc 1 [vi 0] <| Rk <| Runs.block ?_
 obtain ⟨e_1, he_1, h⟩ := bind_s h
 refine Runs.loop (fun x : Int => disp_Find_l6 s_ r_1 (r_1.length : Int) x) (fun (x : Int) (g : Unit) => disp_Find_h6 s_ r_1 (r_1.length : Int) x) (disp_Find_P6 s_ s_ r_1 (r_1.length : Int)) (fun x g r hr => disp_Find_l6_ok s_ s_ r_1 (r_1.length : Int) x  r hr) () he_1 (Canon.cons (frz_ref (e := D.str) (l := r_1) (id := [5]) (v := 0) (n := 1) (fz := false) (by kernel_rfl) (by kernel_rfl) rfl) Cz) ?_
 rintro ⟨o, s⟩ hp
 cases e_1 with
 | inl e_2 =>
  obtain ⟨ho, hf⟩ := hp
  have ho' : o = .ret := ho
  subst ho'
  refine kB_ret <| kS_ret ?_
  obtain rfl := sj h
  exact ⟨Out.ret_ne, hf⟩
 | inr e_3 =>
  obtain ⟨ho, g_1, hk_1⟩ := hp
  have ho' : o = .exit 0 := ho
  subst ho'
  refine kB_hit <| kS_nrm <| Runs.canon _ hk_1 <| Sq <| Ro <| Rc 1 [vi 0] <| Rk <| Runs.ret ?_
  cases h
  exact Fq
theorem disp_Find_L (s_ : (List UInt8)) (r : Int) (h : disp_Find s_ = some r) : L 5 [.d (.str s_)] = some (.i r, [.d (.str s_)]) := by
 obtain ⟨p, ⟨hne, hf⟩, hr⟩ := disp_Find_ok s_ r h
 obtain ⟨k, hk⟩ := run_of (F := F5) (args := [.d (.str s_)]) (ap := [.d (.str s_)]) (bx0 := updW (fun _ => none) []) rfl rfl (by kernel_rfl) ⟨p, ⟨hne, hf⟩, hr⟩
 exact lim_run (k := k) rfl hk
def hansomlaw17_awake_Q  (r : Bool) (p : Out × St) : Prop := (∀ i, p.1 ≠ .exit i) ∧ finF F6 [] p.2 = some (.b r, [])
theorem hansomlaw17_awake_ok  (r : Bool) (h : hansomlaw17_awake = some r) : Runs L F6.body ⟨tmOf [] 0, updW (fun _ => none) []⟩ (hansomlaw17_awake_Q  r) := by
 unfold hansomlaw17_awake at h
 refine Sq <| Ro <| Rc 1 [vb false] <| Rk <| Sq <| Ro <| Rc 1 [⟨.d (.agg [.bool false, .int .i64 0, .int .i64 0, .int .u8 144, .int .i64 0, .int .i64 0, .int .i64 0, .int .u16 0, .int .u16 0, .int .u16 0]), []⟩] ?_
 obtain ⟨r_1, hr_1, h⟩ := bind_s h
 have hc_1 := disp_Text_L ({ Lock := false, Rep := 0, Seg := 0, Op := 144, Mod := 0, Reg := 0, RM := 0, Disp := 0, Imm := 0, Sel := 0 } : Inst) r_1 hr_1
 refine Rt (some 2) (.callf 17) [] none [.d (.agg [.bool false, .int .i64 0, .int .i64 0, .int .u8 144, .int .i64 0, .int .i64 0, .int .i64 0, .int .u16 0, .int .u16 0, .int .u16 0])] (.d (.str r_1)) [] (cc hc_1) <| Rc 2 [vb (r_1 == ([88, 67, 72, 71, 32, 65, 88, 44, 65, 88] : List UInt8)), vb (r_1 == ([88, 67, 72, 71, 32, 65, 88, 44, 65, 88] : List UInt8))] ?_
 cases hb_1 : ((r_1 == ([88, 67, 72, 71, 32, 65, 88, 44, 65, 88] : List UInt8)) : Bool) with
 | true =>
  replace h := ite_t hb_1 h
  obtain ⟨r_2, hr_2, h⟩ := bind_s h
  have hc_2 := disp_Find_L ([83, 84, 68] : List UInt8) r_2 hr_2
  refine Rt (some 5) (.callf 5) [] none [.d (.str ([83, 84, 68] : List UInt8))] (.i r_2) [] (cc hc_2) <| Rc 3 [vb (r_2 == 95), vb (r_2 == 95), vb (r_2 == 95)] ?_
  cases hb_2 : ((r_2 == 95) : Bool) with
  | true =>
   replace h := ite_t hb_2 h
   obtain ⟨r_3, hr_3, h⟩ := bind_s h
   have hc_3 := disp_Name_L 32 r_3 hr_3
   refine Rt (some 9) (.callf 7) [] none [.i 32] (.d (.str r_3)) [] (cc hc_3) <| Rc 3 [vb (r_3 == ([74, 71] : List UInt8)), vb (r_3 == ([74, 71] : List UInt8)), vb (r_3 == ([74, 71] : List UInt8))] <| Rk <| Runs.ret ?_
   cases h
   exact Fq
  | false =>
   replace h := ite_f hb_2 h
   refine Rc 4 [vn, vn, vb false, vb false] <| Rk <| Runs.ret ?_
   cases h
   exact Fq
 | false =>
  replace h := ite_f hb_1 h
  refine Rc 8 [vn, vn, vb false, vb false, vn, vn, vb false, vb false] <| Rk <| Runs.ret ?_
  cases h
  exact Fq
theorem hansomlaw17_awake_L  (r : Bool) (h : hansomlaw17_awake = some r) : L 6 [] = some (.b r, []) := by
 obtain ⟨p, ⟨hne, hf⟩, hr⟩ := hansomlaw17_awake_ok  r h
 obtain ⟨k, hk⟩ := run_of (F := F6) (args := []) (ap := []) (bx0 := updW (fun _ => none) []) rfl rfl (by kernel_rfl) ⟨p, ⟨hne, hf⟩, hr⟩
 exact lim_run (k := k) rfl hk
def hansomref17_of_Q (l_ : (List (List UInt8))) (n_ : Int) (r : (List UInt8)) (p : Out × St) : Prop := (∀ i, p.1 ≠ .exit i) ∧ finF F22 [.d (.sl (List.map D.str l_)), .i n_] p.2 = some (.d (.str r), [.d (.sl (List.map D.str l_)), .i n_])
theorem hansomref17_of_ok (l_ : (List (List UInt8))) (n_ : Int) (r : (List UInt8)) (h : hansomref17_of l_ n_ = some r) : Runs L F22.body ⟨tmOf [.d (.sl (List.map D.str l_)), .i n_] 0, updW (fun _ => none) []⟩ (hansomref17_of_Q l_ n_ r) := by
 unfold hansomref17_of at h
 refine Sq <| Ro <| Rc 1 [⟨.d (.str ([] : List UInt8)), []⟩] <| Rk <| Sq <| Sq <| Ro <| Rc 3 [vi n_, vb (decide (n_ < 0)), vb (decide (n_ < 0))] ?_
 cases hb_1 : ((decide (n_ < 0)) : Bool) with
 | true =>
  replace h := ite_t hb_1 h
  refine Rc 5 [vn, vn, vn, vn, vb true] <| Rk <| Ct <| Sq <| Ro <| Rc 1 [⟨.d (.str ([63] : List UInt8)), []⟩] <| Rk <| Runs.ret <| kS_ret ?_
  cases h
  exact Fq
 | false =>
  replace h := ite_f hb_1 h
  refine Rc 2 [vi n_, ⟨.d (.sl (List.map D.str l_)), []⟩] <| Rt (some 10) .lenL [] none [.d (.sl (List.map D.str l_))] (.i (l_.length : Int)) [] (cut_len _) <| Rc 2 [vb (decide (n_ ≥ (l_.length : Int))), vb (decide (n_ ≥ (l_.length : Int)))] <| Rk ?_
  cases hb_2 : ((decide (n_ ≥ (l_.length : Int))) : Bool) with
  | true =>
   replace h := ite_t hb_2 h
   refine Ct <| Sq <| Ro <| Rc 1 [⟨.d (.str ([63] : List UInt8)), []⟩] <| Rk <| Runs.ret <| kS_ret ?_
   cases h
   exact Fq
  | false =>
   replace h := ite_f hb_2 h
   refine Cf <| Runs.skip <| kS_nrm <| Sq <| Ro <| Rc 2 [⟨.d (.sl (List.map D.str l_)), []⟩, vi n_] ?_
   obtain ⟨z_1, hz_1, h⟩ := bind_s h
   refine Rt (some 15) (.iaddrS 1) [] none [.d (.sl (List.map D.str l_)), .i n_] (.elt (.str z_1) 0) [] (cut_at hz_1 (fun _ => rfl)) <| Rc 2 [⟨.d (.str z_1), []⟩, ⟨.d (.str z_1), []⟩] <| Rk <| Runs.ret ?_
   cases h
   exact Fq
theorem hansomref17_of_L (l_ : (List (List UInt8))) (n_ : Int) (r : (List UInt8)) (h : hansomref17_of l_ n_ = some r) : L 22 [.d (.sl (List.map D.str l_)), .i n_] = some (.d (.str r), [.d (.sl (List.map D.str l_)), .i n_]) := by
 obtain ⟨p, ⟨hne, hf⟩, hr⟩ := hansomref17_of_ok l_ n_ r h
 obtain ⟨k, hk⟩ := run_of (F := F22) (args := [.d (.sl (List.map D.str l_)), .i n_]) (ap := [.d (.sl (List.map D.str l_)), .i n_]) (bx0 := updW (fun _ => none) []) rfl rfl (by kernel_rfl) ⟨p, ⟨hne, hf⟩, hr⟩
 exact lim_run (k := k) rfl hk
def hansomref17_Seg_Q (n_ : Int) (r : (List UInt8)) (p : Out × St) : Prop := (∀ i, p.1 ≠ .exit i) ∧ finF F14 [.i n_] p.2 = some (.d (.str r), [.i n_])
theorem hansomref17_Seg_ok (n_ : Int) (r : (List UInt8)) (h : hansomref17_Seg n_ = some r) : Runs L F14.body ⟨tmOf [.i n_] 0, updW (fun _ => none) []⟩ (hansomref17_Seg_Q n_ r) := by
 unfold hansomref17_Seg at h
 refine Sq <| Ro <| Rc 1 [⟨.d (.str ([] : List UInt8)), []⟩] <| Rk <| Sq <| Ro <| Rc 2 [⟨.ref [3] 0 0 (List.map D.str ([([69, 83] : List UInt8), ([67, 83] : List UInt8), ([83, 83] : List UInt8), ([68, 83] : List UInt8)] : List (List UInt8))).length 1, [([3], some (.arr (List.map D.str ([([69, 83] : List UInt8), ([67, 83] : List UInt8), ([83, 83] : List UInt8), ([68, 83] : List UInt8)] : List (List UInt8))) 0 false))]⟩, vi n_] ?_
 obtain ⟨r_1, hr_1, h⟩ := bind_s h
 have hc_1 := hansomref17_of_L ([([69, 83] : List UInt8), ([67, 83] : List UInt8), ([83, 83] : List UInt8), ([68, 83] : List UInt8)] : List (List UInt8)) n_ r_1 hr_1
 refine Rt (some 5) (.callf 22) [] none [.ref [3] 0 0 (List.map D.str ([([69, 83] : List UInt8), ([67, 83] : List UInt8), ([83, 83] : List UInt8), ([68, 83] : List UInt8)] : List (List UInt8))).length 1, .i n_] (.d (.str r_1)) [([3], some (.arr (List.map D.str ([([69, 83] : List UInt8), ([67, 83] : List UInt8), ([83, 83] : List UInt8), ([68, 83] : List UInt8)] : List (List UInt8))) 0 true))] (cut_call (call_of (ws := [([3], some (.arr (List.map D.str ([([69, 83] : List UInt8), ([67, 83] : List UInt8), ([83, 83] : List UInt8), ([68, 83] : List UInt8)] : List (List UInt8))) 0 true))]) (us := [([3], some (.arr (List.map D.str ([([69, 83] : List UInt8), ([67, 83] : List UInt8), ([83, 83] : List UInt8), ([68, 83] : List UInt8)] : List (List UInt8))) 0 true))]) (by kernel_rfl) (gives_cons (ws := [([3], some (.arr (List.map D.str ([([69, 83] : List UInt8), ([67, 83] : List UInt8), ([83, 83] : List UInt8), ([68, 83] : List UInt8)] : List (List UInt8))) 0 true))]) (give_ref (e := D.str) (l := ([([69, 83] : List UInt8), ([67, 83] : List UInt8), ([83, 83] : List UInt8), ([68, 83] : List UInt8)] : List (List UInt8))) (fz := false) (by kernel_rfl) (by kernel_rfl) rfl) (gives_cons (ws := []) (give_same (by kernel_rfl)) gives_nil)) hc_1 (by kernel_rfl) (by kernel_rfl))) <| Rc 1 [⟨.d (.str r_1), []⟩] <| Rk <| Runs.ret ?_
 cases h
 exact Fq
theorem hansomref17_Seg_L (n_ : Int) (r : (List UInt8)) (h : hansomref17_Seg n_ = some r) : L 14 [.i n_] = some (.d (.str r), [.i n_]) := by
 obtain ⟨p, ⟨hne, hf⟩, hr⟩ := hansomref17_Seg_ok n_ r h
 obtain ⟨k, hk⟩ := run_of (F := F14) (args := [.i n_]) (ap := [.i n_]) (bx0 := updW (fun _ => none) []) rfl rfl (by kernel_rfl) ⟨p, ⟨hne, hf⟩, hr⟩
 exact lim_run (k := k) rfl hk
def hansomref17_Byte_Q (n_ : Int) (r : (List UInt8)) (p : Out × St) : Prop := (∀ i, p.1 ≠ .exit i) ∧ finF F12 [.i n_] p.2 = some (.d (.str r), [.i n_])
theorem hansomref17_Byte_ok (n_ : Int) (r : (List UInt8)) (h : hansomref17_Byte n_ = some r) : Runs L F12.body ⟨tmOf [.i n_] 0, updW (fun _ => none) []⟩ (hansomref17_Byte_Q n_ r) := by
 unfold hansomref17_Byte at h
 refine Sq <| Ro <| Rc 1 [⟨.d (.str ([] : List UInt8)), []⟩] <| Rk <| Sq <| Ro <| Rc 2 [⟨.ref [3] 0 0 (List.map D.str ([([65, 76] : List UInt8), ([67, 76] : List UInt8), ([68, 76] : List UInt8), ([66, 76] : List UInt8), ([65, 72] : List UInt8), ([67, 72] : List UInt8), ([68, 72] : List UInt8), ([66, 72] : List UInt8)] : List (List UInt8))).length 1, [([3], some (.arr (List.map D.str ([([65, 76] : List UInt8), ([67, 76] : List UInt8), ([68, 76] : List UInt8), ([66, 76] : List UInt8), ([65, 72] : List UInt8), ([67, 72] : List UInt8), ([68, 72] : List UInt8), ([66, 72] : List UInt8)] : List (List UInt8))) 0 false))]⟩, vi n_] ?_
 obtain ⟨r_1, hr_1, h⟩ := bind_s h
 have hc_1 := hansomref17_of_L ([([65, 76] : List UInt8), ([67, 76] : List UInt8), ([68, 76] : List UInt8), ([66, 76] : List UInt8), ([65, 72] : List UInt8), ([67, 72] : List UInt8), ([68, 72] : List UInt8), ([66, 72] : List UInt8)] : List (List UInt8)) n_ r_1 hr_1
 refine Rt (some 5) (.callf 22) [] none [.ref [3] 0 0 (List.map D.str ([([65, 76] : List UInt8), ([67, 76] : List UInt8), ([68, 76] : List UInt8), ([66, 76] : List UInt8), ([65, 72] : List UInt8), ([67, 72] : List UInt8), ([68, 72] : List UInt8), ([66, 72] : List UInt8)] : List (List UInt8))).length 1, .i n_] (.d (.str r_1)) [([3], some (.arr (List.map D.str ([([65, 76] : List UInt8), ([67, 76] : List UInt8), ([68, 76] : List UInt8), ([66, 76] : List UInt8), ([65, 72] : List UInt8), ([67, 72] : List UInt8), ([68, 72] : List UInt8), ([66, 72] : List UInt8)] : List (List UInt8))) 0 true))] (cut_call (call_of (ws := [([3], some (.arr (List.map D.str ([([65, 76] : List UInt8), ([67, 76] : List UInt8), ([68, 76] : List UInt8), ([66, 76] : List UInt8), ([65, 72] : List UInt8), ([67, 72] : List UInt8), ([68, 72] : List UInt8), ([66, 72] : List UInt8)] : List (List UInt8))) 0 true))]) (us := [([3], some (.arr (List.map D.str ([([65, 76] : List UInt8), ([67, 76] : List UInt8), ([68, 76] : List UInt8), ([66, 76] : List UInt8), ([65, 72] : List UInt8), ([67, 72] : List UInt8), ([68, 72] : List UInt8), ([66, 72] : List UInt8)] : List (List UInt8))) 0 true))]) (by kernel_rfl) (gives_cons (ws := [([3], some (.arr (List.map D.str ([([65, 76] : List UInt8), ([67, 76] : List UInt8), ([68, 76] : List UInt8), ([66, 76] : List UInt8), ([65, 72] : List UInt8), ([67, 72] : List UInt8), ([68, 72] : List UInt8), ([66, 72] : List UInt8)] : List (List UInt8))) 0 true))]) (give_ref (e := D.str) (l := ([([65, 76] : List UInt8), ([67, 76] : List UInt8), ([68, 76] : List UInt8), ([66, 76] : List UInt8), ([65, 72] : List UInt8), ([67, 72] : List UInt8), ([68, 72] : List UInt8), ([66, 72] : List UInt8)] : List (List UInt8))) (fz := false) (by kernel_rfl) (by kernel_rfl) rfl) (gives_cons (ws := []) (give_same (by kernel_rfl)) gives_nil)) hc_1 (by kernel_rfl) (by kernel_rfl))) ?_
 refine Rc 1 [⟨.d (.str r_1), []⟩] <| Rk <| Runs.ret ?_
 cases h
 exact Fq
theorem hansomref17_Byte_L (n_ : Int) (r : (List UInt8)) (h : hansomref17_Byte n_ = some r) : L 12 [.i n_] = some (.d (.str r), [.i n_]) := by
 obtain ⟨p, ⟨hne, hf⟩, hr⟩ := hansomref17_Byte_ok n_ r h
 obtain ⟨k, hk⟩ := run_of (F := F12) (args := [.i n_]) (ap := [.i n_]) (bx0 := updW (fun _ => none) []) rfl rfl (by kernel_rfl) ⟨p, ⟨hne, hf⟩, hr⟩
 exact lim_run (k := k) rfl hk
def hansomref01_Hex_h8 (n0 : Int) (many1 : Int) (s5 : (List UInt8)) (i6 : Int) : St := ⟨tab [(0, .u n0), (1, .i many1), (5, .d (.str s5)), (6, .i i6)], tabB []⟩
def hansomref01_Hex_h27 (s5 : (List UInt8)) : St := ⟨tab [(5, .d (.str s5))], tabB []⟩
def hansomref01_Hex_Q (n_ : Int) (many_ : Int) (r : (List UInt8)) (p : Out × St) : Prop := (∀ i, p.1 ≠ .exit i) ∧ finF F48 [.u n_, .i many_] p.2 = some (.d (.str r), [.u n_, .i many_])
def hansomref01_Hex_P8 (n_ : Int) (many_ : Int) (many1 : Int) (e : (List UInt8)) (p : Out × St) : Prop := p.1 = .exit 0 ∧ ∃ g : Unit, Canon [] [5] [] p.2 (hansomref01_Hex_h27 e)
theorem hansomref01_Hex_l8_ok (n_ : Int) (many_ : Int) (n0 : Int) (many1 : Int) (s5 : (List UInt8)) (i6 : Int) (r : (Lp (Int × (List UInt8) × Int) (List UInt8))) (h : hansomref01_Hex_l8 n0 many1 s5 i6 = some r) : Runs L F48l8 (hansomref01_Hex_h8 n0 many1 s5 i6) (LQ [] [0, 1, 5, 6] [] (fun (x : (Int × (List UInt8) × Int)) (g : Unit) => hansomref01_Hex_h8 x.1 many1 x.2.1 x.2.2) (hansomref01_Hex_P8 n_ many_ many1) r) := by
 unfold hansomref01_Hex_l8 at h
 refine Sq <| Sq <| Ro <| Rc 3 [vi i6, vi many1, vb (decide (i6 < many1))] <| Rk ?_
 cases hb_1 : ((decide (i6 < many1)) : Bool) with
 | true =>
  replace h := ite_t hb_1 h
  refine Ct <| Runs.skip <| kS_nrm <| Sq <| Runs.block <| Sq <| Ro <| Rc 3 [vu n0, vu (Int.tmod n0 16), vu (Int.tmod n0 16)] <| Rk <| Sq <| Sq <| Ro <| Rc 2 [vu (Int.tmod n0 16), vb (decide ((Int.tmod n0 16) < 10))] <| Rk ?_
  cases hb_2 : ((decide ((Int.tmod n0 16) < 10)) : Bool) with
  | true =>
   replace h := ite_t hb_2 h
   refine Ct <| Ro <| Rc 4 [vu (Int.tmod n0 16), vu (IntKind.wrap .u32 (48 + (Int.tmod n0 16))), vy (IntKind.wrap .u8 (IntKind.wrap .u32 (48 + (Int.tmod n0 16)))), ⟨.ref [20] 0 0 (mY ([(IntKind.wrap .u8 (IntKind.wrap .u32 (48 + (Int.tmod n0 16))))] : List Int)).length 1, [([20], some (.arr (mY ([(IntKind.wrap .u8 (IntKind.wrap .u32 (48 + (Int.tmod n0 16))))] : List Int)) 0 false))]⟩] <| Rt (some 21) .bytesStr [] none [.ref [20] 0 0 (mY ([(IntKind.wrap .u8 (IntKind.wrap .u32 (48 + (Int.tmod n0 16))))] : List Int)).length 1] (.d (.str (b2s ([(IntKind.wrap .u8 (IntKind.wrap .u32 (48 + (Int.tmod n0 16))))] : List Int)))) [] (cut_bsR (l := ([(IntKind.wrap .u8 (IntKind.wrap .u32 (48 + (Int.tmod n0 16))))] : List Int)) (fz := false) (by kernel_rfl) (by kernel_rfl) rfl) <| Rc 1 [⟨.d (.str s5), []⟩] ?_
   obtain ⟨z_1, hz_1, h⟩ := bind_s h
   refine Rt (some 23) (.bin .add) [] none [.d (.str (b2s ([(IntKind.wrap .u8 (IntKind.wrap .u32 (48 + (Int.tmod n0 16))))] : List Int))), .d (.str s5)] (.d (.str z_1)) [] (cut_cat hz_1) <| Rc 1 [⟨.d (.str z_1), []⟩] <| Rk <| Ro <| Rc 3 [vu n0, vu (IntKind.wrap .u32 (Int.tdiv n0 16)), vu (IntKind.wrap .u32 (Int.tdiv n0 16))] <| Rd <| kB_nrm <| kS_nrm <| Ro <| Rc 3 [vi i6, vi (IntKind.wrap .i64 (i6 + 1)), vi (IntKind.wrap .i64 (i6 + 1))] <| Rd ?_
   obtain rfl := sj h
   exact ⟨rfl, (), Cz⟩
  | false =>
   replace h := ite_f hb_2 h
   refine Cf <| Ro <| Rc 5 [vu (Int.tmod n0 16), vu (IntKind.wrap .u32 (65 + (Int.tmod n0 16))), vu (IntKind.wrap .u32 ((IntKind.wrap .u32 (65 + (Int.tmod n0 16))) - 10)), vy (IntKind.wrap .u8 (IntKind.wrap .u32 ((IntKind.wrap .u32 (65 + (Int.tmod n0 16))) - 10))), ⟨.ref [28] 0 0 (mY ([(IntKind.wrap .u8 (IntKind.wrap .u32 ((IntKind.wrap .u32 (65 + (Int.tmod n0 16))) - 10)))] : List Int)).length 1, [([28], some (.arr (mY ([(IntKind.wrap .u8 (IntKind.wrap .u32 ((IntKind.wrap .u32 (65 + (Int.tmod n0 16))) - 10)))] : List Int)) 0 false))]⟩] <| Rt (some 29) .bytesStr [] none [.ref [28] 0 0 (mY ([(IntKind.wrap .u8 (IntKind.wrap .u32 ((IntKind.wrap .u32 (65 + (Int.tmod n0 16))) - 10)))] : List Int)).length 1] (.d (.str (b2s ([(IntKind.wrap .u8 (IntKind.wrap .u32 ((IntKind.wrap .u32 (65 + (Int.tmod n0 16))) - 10)))] : List Int)))) [] (cut_bsR (l := ([(IntKind.wrap .u8 (IntKind.wrap .u32 ((IntKind.wrap .u32 (65 + (Int.tmod n0 16))) - 10)))] : List Int)) (fz := false) (by kernel_rfl) (by kernel_rfl) rfl) <| Rc 1 [⟨.d (.str s5), []⟩] ?_
   obtain ⟨z_2, hz_2, h⟩ := bind_s h
   refine Rt (some 31) (.bin .add) [] none [.d (.str (b2s ([(IntKind.wrap .u8 (IntKind.wrap .u32 ((IntKind.wrap .u32 (65 + (Int.tmod n0 16))) - 10)))] : List Int))), .d (.str s5)] (.d (.str z_2)) [] (cut_cat hz_2) <| Rc 1 [⟨.d (.str z_2), []⟩] <| Rk <| Ro <| Rc 3 [vu n0, vu (IntKind.wrap .u32 (Int.tdiv n0 16)), vu (IntKind.wrap .u32 (Int.tdiv n0 16))] <| Rd <| kB_nrm <| kS_nrm <| Ro <| Rc 3 [vi i6, vi (IntKind.wrap .i64 (i6 + 1)), vi (IntKind.wrap .i64 (i6 + 1))] <| Rd ?_
   obtain rfl := sj h
   exact ⟨rfl, (), Cz⟩
 | false =>
  replace h := ite_f hb_1 h
  refine Cf <| Runs.exit <| kS_exit ?_
  obtain rfl := sj h
  exact ⟨nofun, rfl, (), Cz⟩
theorem hansomref01_Hex_ok (n_ : Int) (many_ : Int) (r : (List UInt8)) (h : hansomref01_Hex n_ many_ = some r) : Runs L F48.body ⟨tmOf [.u n_, .i many_] 0, updW (fun _ => none) []⟩ (hansomref01_Hex_Q n_ many_ r) := by
 unfold hansomref01_Hex at h
 refine Sq <| Ro <| Rc 1 [⟨.d (.str ([] : List UInt8)), []⟩] <| Rk <| Sq <| Ro <| Rc 1 [⟨.d (.str ([] : List UInt8)), []⟩] <| Rk <| Sq <| Sq <| Ro <| Rc 1 [vi 0] <| Rk <| Runs.block ?_
 obtain ⟨e_1, he_1, h⟩ := bind_s h
 refine Runs.loop (fun x : (Int × (List UInt8) × Int) => hansomref01_Hex_l8 x.1 many_ x.2.1 x.2.2) (fun (x : (Int × (List UInt8) × Int)) (g : Unit) => hansomref01_Hex_h8 x.1 many_ x.2.1 x.2.2) (hansomref01_Hex_P8 n_ many_ many_) (fun x g r hr => hansomref01_Hex_l8_ok n_ many_ x.1 many_ x.2.1 x.2.2  r hr) () he_1 Cz ?_
 rintro ⟨o, s⟩ hp
 obtain ⟨ho, g_1, hk_1⟩ := hp
 have ho' : o = .exit 0 := ho
 subst ho'
 refine kB_hit <| kS_nrm <| Runs.canon _ hk_1 <| Sq <| Ro <| Rc 2 [⟨.d (.str e_1), []⟩, ⟨.d (.str e_1), []⟩] <| Rk <| Runs.ret ?_
 cases h
 exact Fq
theorem hansomref01_Hex_L (n_ : Int) (many_ : Int) (r : (List UInt8)) (h : hansomref01_Hex n_ many_ = some r) : L 48 [.u n_, .i many_] = some (.d (.str r), [.u n_, .i many_]) := by
 obtain ⟨p, ⟨hne, hf⟩, hr⟩ := hansomref01_Hex_ok n_ many_ r h
 obtain ⟨k, hk⟩ := run_of (F := F48) (args := [.u n_, .i many_]) (ap := [.u n_, .i many_]) (bx0 := updW (fun _ => none) []) rfl rfl (by kernel_rfl) ⟨p, ⟨hne, hf⟩, hr⟩
 exact lim_run (k := k) rfl hk
def hansomref17_place_h10 (i1 : Inst) (s3 : (List UInt8)) : St := ⟨tab [(1, .ptr [1] 0 0), (3, .d (.str s3))], tabB [([1], some (.cells [.b i1.Lock, .i i1.Rep, .i i1.Seg, .y i1.Op, .i i1.Mod, .i i1.Reg, .i i1.RM, .w i1.Disp, .w i1.Imm, .w i1.Sel] 0))]⟩
def hansomref17_place_Q (i_ : Inst) (r : (List UInt8)) (p : Out × St) : Prop := (∀ i, p.1 ≠ .exit i) ∧ finF F47 [.d (Inst.d i_)] p.2 = some (.d (.str r), [.d (Inst.d i_)])
theorem hansomref17_place_j10_ok (i_ : Inst) (i1 : Inst) (s3 : (List UInt8)) (r : (List UInt8)) (h : hansomref17_place_j10 i1 s3 = some r) : Runs L F47b10 (hansomref17_place_h10 i1 s3) (hansomref17_place_Q i_ r) := by
 unfold hansomref17_place_j10 at h
 refine Sq <| Ro <| Rc 3 [⟨.ref [14] 0 0 (List.map D.str ([([66, 88, 43, 83, 73] : List UInt8), ([66, 88, 43, 68, 73] : List UInt8), ([66, 80, 43, 83, 73] : List UInt8), ([66, 80, 43, 68, 73] : List UInt8), ([83, 73] : List UInt8), ([68, 73] : List UInt8), ([66, 80] : List UInt8), ([66, 88] : List UInt8)] : List (List UInt8))).length 1, [([14], some (.arr (List.map D.str ([([66, 88, 43, 83, 73] : List UInt8), ([66, 88, 43, 68, 73] : List UInt8), ([66, 80, 43, 83, 73] : List UInt8), ([66, 80, 43, 68, 73] : List UInt8), ([83, 73] : List UInt8), ([68, 73] : List UInt8), ([66, 80] : List UInt8), ([66, 88] : List UInt8)] : List (List UInt8))) 0 false))]⟩, vp [1] 0 6, vi i1.RM] ?_
 obtain ⟨r_2, hr_2, h⟩ := bind_s h
 have hc_2 := hansomref17_of_L ([([66, 88, 43, 83, 73] : List UInt8), ([66, 88, 43, 68, 73] : List UInt8), ([66, 80, 43, 83, 73] : List UInt8), ([66, 80, 43, 68, 73] : List UInt8), ([83, 73] : List UInt8), ([68, 73] : List UInt8), ([66, 80] : List UInt8), ([66, 88] : List UInt8)] : List (List UInt8)) i1.RM r_2 hr_2
 refine Rt (some 17) (.callf 22) [] none [.ref [14] 0 0 (List.map D.str ([([66, 88, 43, 83, 73] : List UInt8), ([66, 88, 43, 68, 73] : List UInt8), ([66, 80, 43, 83, 73] : List UInt8), ([66, 80, 43, 68, 73] : List UInt8), ([83, 73] : List UInt8), ([68, 73] : List UInt8), ([66, 80] : List UInt8), ([66, 88] : List UInt8)] : List (List UInt8))).length 1, .i i1.RM] (.d (.str r_2)) [([14], some (.arr (List.map D.str ([([66, 88, 43, 83, 73] : List UInt8), ([66, 88, 43, 68, 73] : List UInt8), ([66, 80, 43, 83, 73] : List UInt8), ([66, 80, 43, 68, 73] : List UInt8), ([83, 73] : List UInt8), ([68, 73] : List UInt8), ([66, 80] : List UInt8), ([66, 88] : List UInt8)] : List (List UInt8))) 0 true))] (cut_call (call_of (ws := [([14], some (.arr (List.map D.str ([([66, 88, 43, 83, 73] : List UInt8), ([66, 88, 43, 68, 73] : List UInt8), ([66, 80, 43, 83, 73] : List UInt8), ([66, 80, 43, 68, 73] : List UInt8), ([83, 73] : List UInt8), ([68, 73] : List UInt8), ([66, 80] : List UInt8), ([66, 88] : List UInt8)] : List (List UInt8))) 0 true))]) (us := [([14], some (.arr (List.map D.str ([([66, 88, 43, 83, 73] : List UInt8), ([66, 88, 43, 68, 73] : List UInt8), ([66, 80, 43, 83, 73] : List UInt8), ([66, 80, 43, 68, 73] : List UInt8), ([83, 73] : List UInt8), ([68, 73] : List UInt8), ([66, 80] : List UInt8), ([66, 88] : List UInt8)] : List (List UInt8))) 0 true))]) (by kernel_rfl) (gives_cons (ws := [([14], some (.arr (List.map D.str ([([66, 88, 43, 83, 73] : List UInt8), ([66, 88, 43, 68, 73] : List UInt8), ([66, 80, 43, 83, 73] : List UInt8), ([66, 80, 43, 68, 73] : List UInt8), ([83, 73] : List UInt8), ([68, 73] : List UInt8), ([66, 80] : List UInt8), ([66, 88] : List UInt8)] : List (List UInt8))) 0 true))]) (give_ref (e := D.str) (l := ([([66, 88, 43, 83, 73] : List UInt8), ([66, 88, 43, 68, 73] : List UInt8), ([66, 80, 43, 83, 73] : List UInt8), ([66, 80, 43, 68, 73] : List UInt8), ([83, 73] : List UInt8), ([68, 73] : List UInt8), ([66, 80] : List UInt8), ([66, 88] : List UInt8)] : List (List UInt8))) (fz := false) (by kernel_rfl) (by kernel_rfl) rfl) (gives_cons (ws := []) (give_same (by kernel_rfl)) gives_nil)) hc_2 (by kernel_rfl) (by kernel_rfl))) ?_
 refine Rc 1 [⟨.d (.str r_2), []⟩] <| Rk <| Sq <| Ro <| Rc 4 [vp [1] 0 7, vw i1.Disp, vu (IntKind.wrap .u32 i1.Disp), vu (IntKind.wrap .u32 i1.Disp)] <| Rk <| Sq <| Sq <| Ro <| Rc 4 [vp [1] 0 4, vi i1.Mod, vp [1] 0 6, vi i1.RM] ?_
 obtain ⟨r_3, hr_3, h⟩ := bind_s h
 have hc_3 := hansomref05_Disps_L i1.Mod i1.RM r_3 hr_3
 refine Rt (some 25) (.callf 25) [] none [.i i1.Mod, .i i1.RM] (.i r_3) [] (cc hc_3) <| Rk <| Runs.block <| Sq <| Ro <| Rc 2 [vb (r_3 == 0), vb (r_3 == 0)] <| Rk ?_
 cases hb_2 : ((r_3 == 0) : Bool) with
 | true =>
  replace h := ite_t hb_2 h
  refine Ct <| Sq <| Ro <| Rc 1 [⟨.d (.str s3), []⟩] ?_
  obtain ⟨z_2, hz_2, h⟩ := bind_s h
  refine Rt (some 29) (.bin .add) [] none [.d (.str s3), .d (.str ([91] : List UInt8))] (.d (.str z_2)) [] (cut_cat hz_2) <| Rc 1 [⟨.d (.str r_2), []⟩] ?_
  obtain ⟨z_3, hz_3, h⟩ := bind_s h
  refine Rt (some 31) (.bin .add) [] none [.d (.str z_2), .d (.str r_2)] (.d (.str z_3)) [] (cut_cat hz_3) ?_
  obtain ⟨z_4, hz_4, h⟩ := bind_s h
  refine Rt (some 32) (.bin .add) [] none [.d (.str z_3), .d (.str ([93] : List UInt8))] (.d (.str z_4)) [] (cut_cat hz_4) <| Rc 1 [⟨.d (.str z_4), []⟩] <| Rk <| Runs.ret <| kB_ret <| kS_ret ?_
  cases h
  exact Fq
 | false =>
  replace h := ite_f hb_2 h
  refine Cf <| Sq <| Ro <| Rc 2 [vb (r_3 == 1), vb (r_3 == 1)] <| Rk ?_
  cases hb_3 : ((r_3 == 1) : Bool) with
  | true =>
   replace h := ite_t hb_3 h
   refine Ct <| Sq <| Sq <| Ro <| Rc 2 [vu (IntKind.wrap .u32 i1.Disp), vb (decide ((IntKind.wrap .u32 i1.Disp) > 32767))] <| Rk ?_
   cases hb_4 : ((decide ((IntKind.wrap .u32 i1.Disp) > 32767)) : Bool) with
   | true =>
    replace h := ite_t hb_4 h
    refine Ct <| Sq <| Ro <| Rc 1 [⟨.d (.str s3), []⟩] ?_
    obtain ⟨z_5, hz_5, h⟩ := bind_s h
    refine Rt (some 38) (.bin .add) [] none [.d (.str s3), .d (.str ([91] : List UInt8))] (.d (.str z_5)) [] (cut_cat hz_5) <| Rc 1 [⟨.d (.str r_2), []⟩] ?_
    obtain ⟨z_6, hz_6, h⟩ := bind_s h
    refine Rt (some 40) (.bin .add) [] none [.d (.str z_5), .d (.str r_2)] (.d (.str z_6)) [] (cut_cat hz_6) ?_
    obtain ⟨z_7, hz_7, h⟩ := bind_s h
    refine Rt (some 41) (.bin .add) [] none [.d (.str z_6), .d (.str ([45] : List UInt8))] (.d (.str z_7)) [] (cut_cat hz_7) <| Rc 2 [vu (IntKind.wrap .u32 i1.Disp), vu (IntKind.wrap .u32 (65536 - (IntKind.wrap .u32 i1.Disp)))] ?_
    obtain ⟨r_4, hr_4, h⟩ := bind_s h
    have hc_4 := hansomref01_Hex_L (IntKind.wrap .u32 (65536 - (IntKind.wrap .u32 i1.Disp))) 2 r_4 hr_4
    refine Rt (some 44) (.callf 48) [] none [.u (IntKind.wrap .u32 (65536 - (IntKind.wrap .u32 i1.Disp))), .i 2] (.d (.str r_4)) [] (cc hc_4) ?_
    obtain ⟨z_8, hz_8, h⟩ := bind_s h
    refine Rt (some 45) (.bin .add) [] none [.d (.str z_7), .d (.str r_4)] (.d (.str z_8)) [] (cut_cat hz_8) ?_
    obtain ⟨z_9, hz_9, h⟩ := bind_s h
    refine Rt (some 46) (.bin .add) [] none [.d (.str z_8), .d (.str ([93] : List UInt8))] (.d (.str z_9)) [] (cut_cat hz_9) <| Rc 1 [⟨.d (.str z_9), []⟩] <| Rk <| Runs.ret <| kS_ret <| kB_ret <| kS_ret ?_
    cases h
    exact Fq
   | false =>
    replace h := ite_f hb_4 h
    refine Cf <| Runs.skip <| kS_nrm <| Sq <| Ro <| Rc 1 [⟨.d (.str s3), []⟩] ?_
    obtain ⟨z_10, hz_10, h⟩ := bind_s h
    refine Rt (some 48) (.bin .add) [] none [.d (.str s3), .d (.str ([91] : List UInt8))] (.d (.str z_10)) [] (cut_cat hz_10) <| Rc 1 [⟨.d (.str r_2), []⟩] ?_
    obtain ⟨z_11, hz_11, h⟩ := bind_s h
    refine Rt (some 50) (.bin .add) [] none [.d (.str z_10), .d (.str r_2)] (.d (.str z_11)) [] (cut_cat hz_11) ?_
    obtain ⟨z_12, hz_12, h⟩ := bind_s h
    refine Rt (some 51) (.bin .add) [] none [.d (.str z_11), .d (.str ([43] : List UInt8))] (.d (.str z_12)) [] (cut_cat hz_12) <| Rc 1 [vu (IntKind.wrap .u32 i1.Disp)] ?_
    obtain ⟨r_5, hr_5, h⟩ := bind_s h
    have hc_5 := hansomref01_Hex_L (IntKind.wrap .u32 i1.Disp) 2 r_5 hr_5
    refine Rt (some 53) (.callf 48) [] none [.u (IntKind.wrap .u32 i1.Disp), .i 2] (.d (.str r_5)) [] (cc hc_5) ?_
    obtain ⟨z_13, hz_13, h⟩ := bind_s h
    refine Rt (some 54) (.bin .add) [] none [.d (.str z_12), .d (.str r_5)] (.d (.str z_13)) [] (cut_cat hz_13) ?_
    obtain ⟨z_14, hz_14, h⟩ := bind_s h
    refine Rt (some 55) (.bin .add) [] none [.d (.str z_13), .d (.str ([93] : List UInt8))] (.d (.str z_14)) [] (cut_cat hz_14) <| Rc 1 [⟨.d (.str z_14), []⟩] <| Rk <| Runs.ret <| kB_ret <| kS_ret ?_
    cases h
    exact Fq
  | false =>
   replace h := ite_f hb_3 h
   refine Cf <| Runs.skip <| kB_nrm <| kS_nrm <| Sq <| Sq <| Ro <| Rc 3 [vp [1] 0 4, vi i1.Mod, vb (i1.Mod == 0)] <| Rk ?_
   cases hb_5 : ((i1.Mod == 0) : Bool) with
   | true =>
    replace h := ite_t hb_5 h
    refine Ct <| Sq <| Ro <| Rc 1 [⟨.d (.str s3), []⟩] ?_
    obtain ⟨z_15, hz_15, h⟩ := bind_s h
    refine Rt (some 60) (.bin .add) [] none [.d (.str s3), .d (.str ([91] : List UInt8))] (.d (.str z_15)) [] (cut_cat hz_15) <| Rc 1 [vu (IntKind.wrap .u32 i1.Disp)] ?_
    obtain ⟨r_6, hr_6, h⟩ := bind_s h
    have hc_6 := hansomref01_Hex_L (IntKind.wrap .u32 i1.Disp) 4 r_6 hr_6
    refine Rt (some 62) (.callf 48) [] none [.u (IntKind.wrap .u32 i1.Disp), .i 4] (.d (.str r_6)) [] (cc hc_6) ?_
    obtain ⟨z_16, hz_16, h⟩ := bind_s h
    refine Rt (some 63) (.bin .add) [] none [.d (.str z_15), .d (.str r_6)] (.d (.str z_16)) [] (cut_cat hz_16) ?_
    obtain ⟨z_17, hz_17, h⟩ := bind_s h
    refine Rt (some 64) (.bin .add) [] none [.d (.str z_16), .d (.str ([93] : List UInt8))] (.d (.str z_17)) [] (cut_cat hz_17) <| Rc 1 [⟨.d (.str z_17), []⟩] <| Rk <| Runs.ret <| kS_ret ?_
    cases h
    exact Fq
   | false =>
    replace h := ite_f hb_5 h
    refine Cf <| Runs.skip <| kS_nrm <| Sq <| Ro <| Rc 1 [⟨.d (.str s3), []⟩] ?_
    obtain ⟨z_18, hz_18, h⟩ := bind_s h
    refine Rt (some 66) (.bin .add) [] none [.d (.str s3), .d (.str ([91] : List UInt8))] (.d (.str z_18)) [] (cut_cat hz_18) <| Rc 1 [⟨.d (.str r_2), []⟩] ?_
    obtain ⟨z_19, hz_19, h⟩ := bind_s h
    refine Rt (some 68) (.bin .add) [] none [.d (.str z_18), .d (.str r_2)] (.d (.str z_19)) [] (cut_cat hz_19) ?_
    obtain ⟨z_20, hz_20, h⟩ := bind_s h
    refine Rt (some 69) (.bin .add) [] none [.d (.str z_19), .d (.str ([43] : List UInt8))] (.d (.str z_20)) [] (cut_cat hz_20) <| Rc 1 [vu (IntKind.wrap .u32 i1.Disp)] ?_
    obtain ⟨r_7, hr_7, h⟩ := bind_s h
    have hc_7 := hansomref01_Hex_L (IntKind.wrap .u32 i1.Disp) 4 r_7 hr_7
    refine Rt (some 71) (.callf 48) [] none [.u (IntKind.wrap .u32 i1.Disp), .i 4] (.d (.str r_7)) [] (cc hc_7) ?_
    obtain ⟨z_21, hz_21, h⟩ := bind_s h
    refine Rt (some 72) (.bin .add) [] none [.d (.str z_20), .d (.str r_7)] (.d (.str z_21)) [] (cut_cat hz_21) ?_
    obtain ⟨z_22, hz_22, h⟩ := bind_s h
    refine Rt (some 73) (.bin .add) [] none [.d (.str z_21), .d (.str ([93] : List UInt8))] (.d (.str z_22)) [] (cut_cat hz_22) <| Rc 1 [⟨.d (.str z_22), []⟩] <| Rk <| Runs.ret ?_
    cases h
    exact Fq
theorem hansomref17_place_ok (i_ : Inst) (r : (List UInt8)) (h : hansomref17_place i_ = some r) : Runs L F47.body ⟨tmOf [.d (Inst.d i_)] 0, updW (fun _ => none) []⟩ (hansomref17_place_Q i_ r) := by
 unfold hansomref17_place at h
 refine Sq <| Ro <| Rc 2 [⟨.ptr [1] 0 0, [([1], some (.cells [.b i_.Lock, .i i_.Rep, .i i_.Seg, .y i_.Op, .i i_.Mod, .i i_.Reg, .i i_.RM, .w i_.Disp, .w i_.Imm, .w i_.Sel] 0))]⟩, ⟨.d (.str ([] : List UInt8)), []⟩] <| Rk <| Sq <| Ro <| Rc 1 [⟨.d (.str ([] : List UInt8)), []⟩] <| Rk <| Sq <| Sq <| Ro <| Rc 3 [vp [1] 0 2, vi i_.Seg, vb (decide (i_.Seg > 0))] <| Rk ?_
 cases hb_1 : ((decide (i_.Seg > 0)) : Bool) with
 | true =>
  replace h := ite_t hb_1 h
  refine Ct <| Ro <| Rc 3 [vp [1] 0 2, vi i_.Seg, vi (IntKind.wrap .i64 (i_.Seg - 1))] ?_
  obtain ⟨r_1, hr_1, h⟩ := bind_s h
  have hc_1 := hansomref17_Seg_L (IntKind.wrap .i64 (i_.Seg - 1)) r_1 hr_1
  refine Rt (some 12) (.callf 14) [] none [.i (IntKind.wrap .i64 (i_.Seg - 1))] (.d (.str r_1)) [] (cc hc_1) ?_
  obtain ⟨z_1, hz_1, h⟩ := bind_s h
  refine Rt (some 13) (.bin .add) [] none [.d (.str r_1), .d (.str ([58] : List UInt8))] (.d (.str z_1)) [] (cut_cat hz_1) <| Rc 1 [⟨.d (.str z_1), []⟩] <| Rk <| Runs.canon (hansomref17_place_h10 i_ z_1) Cz ?_
  exact hansomref17_place_j10_ok i_ i_ z_1 r h
 | false =>
  replace h := ite_f hb_1 h
  refine Cf <| Runs.skip <| kS_nrm <| Runs.canon (hansomref17_place_h10 i_ ([] : List UInt8)) Cz ?_
  exact hansomref17_place_j10_ok i_ i_ ([] : List UInt8) r h
theorem hansomref17_place_L (i_ : Inst) (r : (List UInt8)) (h : hansomref17_place i_ = some r) : L 47 [.d (Inst.d i_)] = some (.d (.str r), [.d (Inst.d i_)]) := by
 obtain ⟨p, ⟨hne, hf⟩, hr⟩ := hansomref17_place_ok i_ r h
 obtain ⟨k, hk⟩ := run_of (F := F47) (args := [.d (Inst.d i_)]) (ap := [.d (Inst.d i_)]) (bx0 := updW (fun _ => none) []) rfl rfl (by kernel_rfl) ⟨p, ⟨hne, hf⟩, hr⟩
 exact lim_run (k := k) rfl hk
def hansomref17_Reg_Q (n_ : Int) (r : (List UInt8)) (p : Out × St) : Prop := (∀ i, p.1 ≠ .exit i) ∧ finF F10 [.i n_] p.2 = some (.d (.str r), [.i n_])
theorem hansomref17_Reg_ok (n_ : Int) (r : (List UInt8)) (h : hansomref17_Reg n_ = some r) : Runs L F10.body ⟨tmOf [.i n_] 0, updW (fun _ => none) []⟩ (hansomref17_Reg_Q n_ r) := by
 unfold hansomref17_Reg at h
 refine Sq <| Ro <| Rc 1 [⟨.d (.str ([] : List UInt8)), []⟩] <| Rk <| Sq <| Ro <| Rc 2 [⟨.ref [3] 0 0 (List.map D.str ([([65, 88] : List UInt8), ([67, 88] : List UInt8), ([68, 88] : List UInt8), ([66, 88] : List UInt8), ([83, 80] : List UInt8), ([66, 80] : List UInt8), ([83, 73] : List UInt8), ([68, 73] : List UInt8)] : List (List UInt8))).length 1, [([3], some (.arr (List.map D.str ([([65, 88] : List UInt8), ([67, 88] : List UInt8), ([68, 88] : List UInt8), ([66, 88] : List UInt8), ([83, 80] : List UInt8), ([66, 80] : List UInt8), ([83, 73] : List UInt8), ([68, 73] : List UInt8)] : List (List UInt8))) 0 false))]⟩, vi n_] ?_
 obtain ⟨r_1, hr_1, h⟩ := bind_s h
 have hc_1 := hansomref17_of_L ([([65, 88] : List UInt8), ([67, 88] : List UInt8), ([68, 88] : List UInt8), ([66, 88] : List UInt8), ([83, 80] : List UInt8), ([66, 80] : List UInt8), ([83, 73] : List UInt8), ([68, 73] : List UInt8)] : List (List UInt8)) n_ r_1 hr_1
 refine Rt (some 5) (.callf 22) [] none [.ref [3] 0 0 (List.map D.str ([([65, 88] : List UInt8), ([67, 88] : List UInt8), ([68, 88] : List UInt8), ([66, 88] : List UInt8), ([83, 80] : List UInt8), ([66, 80] : List UInt8), ([83, 73] : List UInt8), ([68, 73] : List UInt8)] : List (List UInt8))).length 1, .i n_] (.d (.str r_1)) [([3], some (.arr (List.map D.str ([([65, 88] : List UInt8), ([67, 88] : List UInt8), ([68, 88] : List UInt8), ([66, 88] : List UInt8), ([83, 80] : List UInt8), ([66, 80] : List UInt8), ([83, 73] : List UInt8), ([68, 73] : List UInt8)] : List (List UInt8))) 0 true))] (cut_call (call_of (ws := [([3], some (.arr (List.map D.str ([([65, 88] : List UInt8), ([67, 88] : List UInt8), ([68, 88] : List UInt8), ([66, 88] : List UInt8), ([83, 80] : List UInt8), ([66, 80] : List UInt8), ([83, 73] : List UInt8), ([68, 73] : List UInt8)] : List (List UInt8))) 0 true))]) (us := [([3], some (.arr (List.map D.str ([([65, 88] : List UInt8), ([67, 88] : List UInt8), ([68, 88] : List UInt8), ([66, 88] : List UInt8), ([83, 80] : List UInt8), ([66, 80] : List UInt8), ([83, 73] : List UInt8), ([68, 73] : List UInt8)] : List (List UInt8))) 0 true))]) (by kernel_rfl) (gives_cons (ws := [([3], some (.arr (List.map D.str ([([65, 88] : List UInt8), ([67, 88] : List UInt8), ([68, 88] : List UInt8), ([66, 88] : List UInt8), ([83, 80] : List UInt8), ([66, 80] : List UInt8), ([83, 73] : List UInt8), ([68, 73] : List UInt8)] : List (List UInt8))) 0 true))]) (give_ref (e := D.str) (l := ([([65, 88] : List UInt8), ([67, 88] : List UInt8), ([68, 88] : List UInt8), ([66, 88] : List UInt8), ([83, 80] : List UInt8), ([66, 80] : List UInt8), ([83, 73] : List UInt8), ([68, 73] : List UInt8)] : List (List UInt8))) (fz := false) (by kernel_rfl) (by kernel_rfl) rfl) (gives_cons (ws := []) (give_same (by kernel_rfl)) gives_nil)) hc_1 (by kernel_rfl) (by kernel_rfl))) ?_
 refine Rc 1 [⟨.d (.str r_1), []⟩] <| Rk <| Runs.ret ?_
 cases h
 exact Fq
theorem hansomref17_Reg_L (n_ : Int) (r : (List UInt8)) (h : hansomref17_Reg n_ = some r) : L 10 [.i n_] = some (.d (.str r), [.i n_]) := by
 obtain ⟨p, ⟨hne, hf⟩, hr⟩ := hansomref17_Reg_ok n_ r h
 obtain ⟨k, hk⟩ := run_of (F := F10) (args := [.i n_]) (ap := [.i n_]) (bx0 := updW (fun _ => none) []) rfl rfl (by kernel_rfl) ⟨p, ⟨hne, hf⟩, hr⟩
 exact lim_run (k := k) rfl hk
def hansomref17_operand_h10 (i2 : Inst) (k1 : Int) (s5 : (List UInt8)) (n6 : Int) : St := ⟨tab [(1, .i k1), (2, .ptr [2] 0 0), (5, .d (.str s5)), (6, .u n6)], tabB [([2], some (.cells [.b i2.Lock, .i i2.Rep, .i i2.Seg, .y i2.Op, .i i2.Mod, .i i2.Reg, .i i2.RM, .w i2.Disp, .w i2.Imm, .w i2.Sel] 0))]⟩
def hansomref17_operand_h72 (i2 : Inst) (k1 : Int) (s5 : (List UInt8)) (n6 : Int) (t18 : Int) (t60 : Bool) : St := ⟨tab [(1, .i k1), (2, .ptr [2] 0 0), (5, .d (.str s5)), (6, .u n6), (18, .i t18), (60, .b t60)], tabB [([2], some (.cells [.b i2.Lock, .i i2.Rep, .i i2.Seg, .y i2.Op, .i i2.Mod, .i i2.Reg, .i i2.RM, .w i2.Disp, .w i2.Imm, .w i2.Sel] 0))]⟩
def hansomref17_operand_h82 (i2 : Inst) (k1 : Int) (s5 : (List UInt8)) (n6 : Int) (t18 : Int) (t65 : Bool) : St := ⟨tab [(1, .i k1), (2, .ptr [2] 0 0), (5, .d (.str s5)), (6, .u n6), (18, .i t18), (65, .b t65)], tabB [([2], some (.cells [.b i2.Lock, .i i2.Rep, .i i2.Seg, .y i2.Op, .i i2.Mod, .i i2.Reg, .i i2.RM, .w i2.Disp, .w i2.Imm, .w i2.Sel] 0))]⟩
def hansomref17_operand_Q (i_ : Inst) (k_ : Int) (r : (List UInt8)) (p : Out × St) : Prop := (∀ i, p.1 ≠ .exit i) ∧ finF F33 [.d (Inst.d i_), .i k_] p.2 = some (.d (.str r), [.d (Inst.d i_), .i k_])
theorem hansomref17_operand_j82_ok (i_ : Inst) (k_ : Int) (i2 : Inst) (k1 : Int) (s5 : (List UInt8)) (n6 : Int) (t18 : Int) (t65 : Bool) (r : (List UInt8)) (h : hansomref17_operand_j82 i2 k1 s5 n6 t18 t65 = some r) : Runs L F33b82 (hansomref17_operand_h82 i2 k1 s5 n6 t18 t65) (kB 0 (kS L F33c143 (hansomref17_operand_Q i_ k_ r))) := by
 unfold hansomref17_operand_j82 at h
 cases hb_13 : (t65 : Bool) with
 | true =>
  replace h := ite_t hb_13 h
  refine Ct <| Sq <| Sq <| Ro <| Rc 2 [vu n6, vb (decide (n6 > 32767))] <| Rk ?_
  cases hb_14 : ((decide (n6 > 32767)) : Bool) with
  | true =>
   replace h := ite_t hb_14 h
   refine Ct <| Sq <| Ro <| Rc 2 [vu n6, vu (IntKind.wrap .u32 (65536 - n6))] ?_
   obtain ⟨r_11, hr_11, h⟩ := bind_s h
   have hc_11 := hansomref01_Hex_L (IntKind.wrap .u32 (65536 - n6)) 4 r_11 hr_11
   refine Rt (some 72) (.callf 48) [] none [.u (IntKind.wrap .u32 (65536 - n6)), .i 4] (.d (.str r_11)) [] (cc hc_11) ?_
   obtain ⟨z_4, hz_4, h⟩ := bind_s h
   refine Rt (some 73) (.bin .add) [] none [.d (.str ([45] : List UInt8)), .d (.str r_11)] (.d (.str z_4)) [] (cut_cat hz_4) <| Rc 1 [⟨.d (.str z_4), []⟩] <| Rk <| Runs.ret <| kS_ret <| kB_ret <| kS_ret ?_
   cases h
   exact Fq
  | false =>
   replace h := ite_f hb_14 h
   refine Cf <| Runs.skip <| kS_nrm <| Sq <| Ro <| Rc 1 [vu n6] ?_
   obtain ⟨r_12, hr_12, h⟩ := bind_s h
   have hc_12 := hansomref01_Hex_L n6 4 r_12 hr_12
   refine Rt (some 75) (.callf 48) [] none [.u n6, .i 4] (.d (.str r_12)) [] (cc hc_12) ?_
   obtain ⟨z_5, hz_5, h⟩ := bind_s h
   refine Rt (some 76) (.bin .add) [] none [.d (.str ([43] : List UInt8)), .d (.str r_12)] (.d (.str z_5)) [] (cut_cat hz_5) <| Rc 1 [⟨.d (.str z_5), []⟩] <| Rk <| Runs.ret <| kB_ret <| kS_ret ?_
   cases h
   exact Fq
 | false =>
  replace h := ite_f hb_13 h
  refine Cf <| Sq <| Ro <| Rc 2 [vb (t18 == 11), vb (t18 == 11)] <| Rk ?_
  cases hb_15 : ((t18 == 11) : Bool) with
  | true =>
   replace h := ite_t hb_15 h
   refine Ct <| Sq <| Ro <| Rc 3 [vp [2] 0 9, vw i2.Sel, vu (IntKind.wrap .u32 i2.Sel)] ?_
   obtain ⟨r_13, hr_13, h⟩ := bind_s h
   have hc_13 := hansomref01_Hex_L (IntKind.wrap .u32 i2.Sel) 4 r_13 hr_13
   refine Rt (some 82) (.callf 48) [] none [.u (IntKind.wrap .u32 i2.Sel), .i 4] (.d (.str r_13)) [] (cc hc_13) ?_
   obtain ⟨z_6, hz_6, h⟩ := bind_s h
   refine Rt (some 83) (.bin .add) [] none [.d (.str r_13), .d (.str ([58] : List UInt8))] (.d (.str z_6)) [] (cut_cat hz_6) <| Rc 1 [vu n6] ?_
   obtain ⟨r_14, hr_14, h⟩ := bind_s h
   have hc_14 := hansomref01_Hex_L n6 4 r_14 hr_14
   refine Rt (some 85) (.callf 48) [] none [.u n6, .i 4] (.d (.str r_14)) [] (cc hc_14) ?_
   obtain ⟨z_7, hz_7, h⟩ := bind_s h
   refine Rt (some 86) (.bin .add) [] none [.d (.str z_6), .d (.str r_14)] (.d (.str z_7)) [] (cut_cat hz_7) <| Rc 1 [⟨.d (.str z_7), []⟩] <| Rk <| Runs.ret <| kB_ret <| kS_ret ?_
   cases h
   exact Fq
  | false =>
   replace h := ite_f hb_15 h
   refine Cf <| Sq <| Ro <| Rc 2 [vb (t18 == 12), vb (t18 == 12)] <| Rk ?_
   cases hb_16 : ((t18 == 12) : Bool) with
   | true =>
    replace h := ite_t hb_16 h
    refine Ct <| Sq <| Ro <| Rc 1 [⟨.d (.str s5), []⟩] ?_
    obtain ⟨z_8, hz_8, h⟩ := bind_s h
    refine Rt (some 90) (.bin .add) [] none [.d (.str ([66, 89, 84, 69, 32] : List UInt8)), .d (.str s5)] (.d (.str z_8)) [] (cut_cat hz_8) ?_
    obtain ⟨z_9, hz_9, h⟩ := bind_s h
    refine Rt (some 91) (.bin .add) [] none [.d (.str z_8), .d (.str ([91] : List UInt8))] (.d (.str z_9)) [] (cut_cat hz_9) <| Rc 1 [vu n6] ?_
    obtain ⟨r_15, hr_15, h⟩ := bind_s h
    have hc_15 := hansomref01_Hex_L n6 4 r_15 hr_15
    refine Rt (some 93) (.callf 48) [] none [.u n6, .i 4] (.d (.str r_15)) [] (cc hc_15) ?_
    obtain ⟨z_10, hz_10, h⟩ := bind_s h
    refine Rt (some 94) (.bin .add) [] none [.d (.str z_9), .d (.str r_15)] (.d (.str z_10)) [] (cut_cat hz_10) ?_
    obtain ⟨z_11, hz_11, h⟩ := bind_s h
    refine Rt (some 95) (.bin .add) [] none [.d (.str z_10), .d (.str ([93] : List UInt8))] (.d (.str z_11)) [] (cut_cat hz_11) <| Rc 1 [⟨.d (.str z_11), []⟩] <| Rk <| Runs.ret <| kB_ret <| kS_ret ?_
    cases h
    exact Fq
   | false =>
    replace h := ite_f hb_16 h
    refine Cf <| Sq <| Ro <| Rc 2 [vb (t18 == 13), vb (t18 == 13)] <| Rk ?_
    cases hb_17 : ((t18 == 13) : Bool) with
    | true =>
     replace h := ite_t hb_17 h
     refine Ct <| Sq <| Ro <| Rc 1 [⟨.d (.str s5), []⟩] ?_
     obtain ⟨z_12, hz_12, h⟩ := bind_s h
     refine Rt (some 99) (.bin .add) [] none [.d (.str ([87, 79, 82, 68, 32] : List UInt8)), .d (.str s5)] (.d (.str z_12)) [] (cut_cat hz_12) ?_
     obtain ⟨z_13, hz_13, h⟩ := bind_s h
     refine Rt (some 100) (.bin .add) [] none [.d (.str z_12), .d (.str ([91] : List UInt8))] (.d (.str z_13)) [] (cut_cat hz_13) <| Rc 1 [vu n6] ?_
     obtain ⟨r_16, hr_16, h⟩ := bind_s h
     have hc_16 := hansomref01_Hex_L n6 4 r_16 hr_16
     refine Rt (some 102) (.callf 48) [] none [.u n6, .i 4] (.d (.str r_16)) [] (cc hc_16) ?_
     obtain ⟨z_14, hz_14, h⟩ := bind_s h
     refine Rt (some 103) (.bin .add) [] none [.d (.str z_13), .d (.str r_16)] (.d (.str z_14)) [] (cut_cat hz_14) ?_
     obtain ⟨z_15, hz_15, h⟩ := bind_s h
     refine Rt (some 104) (.bin .add) [] none [.d (.str z_14), .d (.str ([93] : List UInt8))] (.d (.str z_15)) [] (cut_cat hz_15) <| Rc 1 [⟨.d (.str z_15), []⟩] <| Rk <| Runs.ret <| kB_ret <| kS_ret ?_
     cases h
     exact Fq
    | false =>
     replace h := ite_f hb_17 h
     refine Cf <| Sq <| Ro <| Rc 2 [vb (t18 == 19), vb (t18 == 19)] <| Rk ?_
     cases hb_18 : ((t18 == 19) : Bool) with
     | true =>
      replace h := ite_t hb_18 h
      refine Ct <| Sq <| Ro <| Rc 1 [⟨.d (Inst.d i2), []⟩] ?_
      obtain ⟨r_17, hr_17, h⟩ := bind_s h
      have hc_17 := hansomref17_place_L i2 r_17 hr_17
      refine Rt (some 108) (.callf 47) [] none [.d (Inst.d i2)] (.d (.str r_17)) [] (cc hc_17) ?_
      obtain ⟨z_16, hz_16, h⟩ := bind_s h
      refine Rt (some 109) (.bin .add) [] none [.d (.str ([70, 65, 82, 32] : List UInt8)), .d (.str r_17)] (.d (.str z_16)) [] (cut_cat hz_16) <| Rc 1 [⟨.d (.str z_16), []⟩] <| Rk <| Runs.ret <| kB_ret <| kS_ret ?_
      cases h
      exact Fq
     | false =>
      replace h := ite_f hb_18 h
      refine Cf <| Sq <| Ro <| Rc 2 [vb (t18 == 20), vb (t18 == 20)] <| Rk ?_
      cases hb_19 : ((t18 == 20) : Bool) with
      | true =>
       replace h := ite_t hb_19 h
       refine Ct <| Sq <| Ro <| Rc 1 [⟨.d (Inst.d i2), []⟩] ?_
       obtain ⟨r_18, hr_18, h⟩ := bind_s h
       have hc_18 := hansomref17_place_L i2 r_18 hr_18
       refine Rt (some 113) (.callf 47) [] none [.d (Inst.d i2)] (.d (.str r_18)) [] (cc hc_18) <| Rc 1 [⟨.d (.str r_18), []⟩] <| Rk <| Runs.ret <| kB_ret <| kS_ret ?_
       cases h
       exact Fq
      | false =>
       replace h := ite_f hb_19 h
       refine Cf <| Sq <| Ro <| Rc 2 [vb (t18 == 21), vb (t18 == 21)] <| Rk ?_
       cases hb_20 : ((t18 == 21) : Bool) with
       | true =>
        replace h := ite_t hb_20 h
        refine Ct <| Sq <| Ro <| Rc 4 [vp [2] 0 3, vy i2.Op, vy (Int.tmod i2.Op 8), vi (IntKind.wrap .i64 (Int.tmod i2.Op 8))] ?_
        obtain ⟨r_19, hr_19, h⟩ := bind_s h
        have hc_19 := hansomref17_Byte_L (IntKind.wrap .i64 (Int.tmod i2.Op 8)) r_19 hr_19
        refine Rt (some 120) (.callf 12) [] none [.i (IntKind.wrap .i64 (Int.tmod i2.Op 8))] (.d (.str r_19)) [] (cc hc_19) <| Rc 1 [⟨.d (.str r_19), []⟩] <| Rk <| Runs.ret <| kB_ret <| kS_ret ?_
        cases h
        exact Fq
       | false =>
        replace h := ite_f hb_20 h
        refine Cf <| Sq <| Ro <| Rc 2 [vb (t18 == 22), vb (t18 == 22)] <| Rk ?_
        cases hb_21 : ((t18 == 22) : Bool) with
        | true =>
         replace h := ite_t hb_21 h
         refine Ct <| Sq <| Ro <| Rc 4 [vp [2] 0 3, vy i2.Op, vy (Int.tmod i2.Op 8), vi (IntKind.wrap .i64 (Int.tmod i2.Op 8))] ?_
         obtain ⟨r_20, hr_20, h⟩ := bind_s h
         have hc_20 := hansomref17_Reg_L (IntKind.wrap .i64 (Int.tmod i2.Op 8)) r_20 hr_20
         refine Rt (some 127) (.callf 10) [] none [.i (IntKind.wrap .i64 (Int.tmod i2.Op 8))] (.d (.str r_20)) [] (cc hc_20) <| Rc 1 [⟨.d (.str r_20), []⟩] <| Rk <| Runs.ret <| kB_ret <| kS_ret ?_
         cases h
         exact Fq
        | false =>
         replace h := ite_f hb_21 h
         refine Cf <| Sq <| Ro <| Rc 2 [vb (t18 == 23), vb (t18 == 23)] <| Rk ?_
         cases hb_22 : ((t18 == 23) : Bool) with
         | true =>
          replace h := ite_t hb_22 h
          refine Ct <| Sq <| Ro <| Rc 5 [vp [2] 0 3, vy i2.Op, vy (IntKind.wrap .u8 (Int.tdiv i2.Op 8)), vy (Int.tmod (IntKind.wrap .u8 (Int.tdiv i2.Op 8)) 4), vi (IntKind.wrap .i64 (Int.tmod (IntKind.wrap .u8 (Int.tdiv i2.Op 8)) 4))] ?_
          obtain ⟨r_21, hr_21, h⟩ := bind_s h
          have hc_21 := hansomref17_Seg_L (IntKind.wrap .i64 (Int.tmod (IntKind.wrap .u8 (Int.tdiv i2.Op 8)) 4)) r_21 hr_21
          refine Rt (some 135) (.callf 14) [] none [.i (IntKind.wrap .i64 (Int.tmod (IntKind.wrap .u8 (Int.tdiv i2.Op 8)) 4))] (.d (.str r_21)) [] (cc hc_21) <| Rc 1 [⟨.d (.str r_21), []⟩] <| Rk <| Runs.ret <| kB_ret <| kS_ret ?_
          cases h
          exact Fq
         | false =>
          replace h := ite_f hb_22 h
          refine Cf <| Runs.skip <| kB_nrm <| kS_nrm <| Sq <| Ro <| Rc 3 [⟨.ref [136] 0 0 (List.map D.str ([([65, 76] : List UInt8), ([67, 76] : List UInt8), ([65, 88] : List UInt8), ([68, 88] : List UInt8), ([49] : List UInt8)] : List (List UInt8))).length 1, [([136], some (.arr (List.map D.str ([([65, 76] : List UInt8), ([67, 76] : List UInt8), ([65, 88] : List UInt8), ([68, 88] : List UInt8), ([49] : List UInt8)] : List (List UInt8))) 0 false))]⟩, vi k1, vi (IntKind.wrap .i64 (k1 - 14))] ?_
          obtain ⟨r_22, hr_22, h⟩ := bind_s h
          have hc_22 := hansomref17_of_L ([([65, 76] : List UInt8), ([67, 76] : List UInt8), ([65, 88] : List UInt8), ([68, 88] : List UInt8), ([49] : List UInt8)] : List (List UInt8)) (IntKind.wrap .i64 (k1 - 14)) r_22 hr_22
          refine Rt (some 139) (.callf 22) [] none [.ref [136] 0 0 (List.map D.str ([([65, 76] : List UInt8), ([67, 76] : List UInt8), ([65, 88] : List UInt8), ([68, 88] : List UInt8), ([49] : List UInt8)] : List (List UInt8))).length 1, .i (IntKind.wrap .i64 (k1 - 14))] (.d (.str r_22)) [([136], some (.arr (List.map D.str ([([65, 76] : List UInt8), ([67, 76] : List UInt8), ([65, 88] : List UInt8), ([68, 88] : List UInt8), ([49] : List UInt8)] : List (List UInt8))) 0 true))] (cut_call (call_of (ws := [([136], some (.arr (List.map D.str ([([65, 76] : List UInt8), ([67, 76] : List UInt8), ([65, 88] : List UInt8), ([68, 88] : List UInt8), ([49] : List UInt8)] : List (List UInt8))) 0 true))]) (us := [([136], some (.arr (List.map D.str ([([65, 76] : List UInt8), ([67, 76] : List UInt8), ([65, 88] : List UInt8), ([68, 88] : List UInt8), ([49] : List UInt8)] : List (List UInt8))) 0 true))]) (by kernel_rfl) (gives_cons (ws := [([136], some (.arr (List.map D.str ([([65, 76] : List UInt8), ([67, 76] : List UInt8), ([65, 88] : List UInt8), ([68, 88] : List UInt8), ([49] : List UInt8)] : List (List UInt8))) 0 true))]) (give_ref (e := D.str) (l := ([([65, 76] : List UInt8), ([67, 76] : List UInt8), ([65, 88] : List UInt8), ([68, 88] : List UInt8), ([49] : List UInt8)] : List (List UInt8))) (fz := false) (by kernel_rfl) (by kernel_rfl) rfl) (gives_cons (ws := []) (give_same (by kernel_rfl)) gives_nil)) hc_22 (by kernel_rfl) (by kernel_rfl))) <| Rc 1 [⟨.d (.str r_22), []⟩] <| Rk ?_
          refine Runs.ret ?_
          cases h
          exact Fq
theorem hansomref17_operand_j72_ok (i_ : Inst) (k_ : Int) (i2 : Inst) (k1 : Int) (s5 : (List UInt8)) (n6 : Int) (t18 : Int) (t60 : Bool) (r : (List UInt8)) (h : hansomref17_operand_j72 i2 k1 s5 n6 t18 t60 = some r) : Runs L F33b72 (hansomref17_operand_h72 i2 k1 s5 n6 t18 t60) (kB 0 (kS L F33c143 (hansomref17_operand_Q i_ k_ r))) := by
 unfold hansomref17_operand_j72 at h
 cases hb_11 : (t60 : Bool) with
 | true =>
  replace h := ite_t hb_11 h
  refine Ct <| Sq <| Ro <| Rc 1 [vu n6] ?_
  obtain ⟨r_10, hr_10, h⟩ := bind_s h
  have hc_10 := hansomref01_Hex_L n6 4 r_10 hr_10
  refine Rt (some 64) (.callf 48) [] none [.u n6, .i 4] (.d (.str r_10)) [] (cc hc_10) <| Rc 1 [⟨.d (.str r_10), []⟩] <| Rk <| Runs.ret <| kB_ret <| kS_ret ?_
  cases h
  exact Fq
 | false =>
  replace h := ite_f hb_11 h
  refine Cf <| Sq <| Sq <| Ro <| Rc 2 [vb (t18 == 9), vb (t18 == 9)] <| Rk ?_
  cases hb_12 : ((t18 == 9) : Bool) with
  | true =>
   replace h := ite_t hb_12 h
   refine Ct <| Runs.skip <| kS_nrm <| Runs.canon (hansomref17_operand_h82 i2 k1 s5 n6 t18 true) Cz ?_
   exact hansomref17_operand_j82_ok i_ k_ i2 k1 s5 n6 t18 true r h
  | false =>
   replace h := ite_f hb_12 h
   refine Cf <| Ro <| Rc 2 [vb (t18 == 10), vb (t18 == 10)] <| Rk <| Runs.canon (hansomref17_operand_h82 i2 k1 s5 n6 t18 (t18 == 10)) Cz ?_
   exact hansomref17_operand_j82_ok i_ k_ i2 k1 s5 n6 t18 (t18 == 10) r h
theorem hansomref17_operand_j10_ok (i_ : Inst) (k_ : Int) (i2 : Inst) (k1 : Int) (s5 : (List UInt8)) (n6 : Int) (r : (List UInt8)) (h : hansomref17_operand_j10 i2 k1 s5 n6 = some r) : Runs L F33b10 (hansomref17_operand_h10 i2 k1 s5 n6) (hansomref17_operand_Q i_ k_ r) := by
 unfold hansomref17_operand_j10 at h
 refine Sq <| Sq <| Ro <| Rc 1 [vi k1] <| Rk <| Runs.block <| Sq <| Ro <| Rc 2 [vb (k1 == 1), vb (k1 == 1)] <| Rk ?_
 cases hb_2 : ((k1 == 1) : Bool) with
 | true =>
  replace h := ite_t hb_2 h
  refine Ct <| Sq <| Sq <| Ro <| Rc 3 [vp [2] 0 4, vi i2.Mod, vb (i2.Mod == 3)] <| Rk ?_
  cases hb_3 : ((i2.Mod == 3) : Bool) with
  | true =>
   replace h := ite_t hb_3 h
   refine Ct <| Sq <| Ro <| Rc 2 [vp [2] 0 6, vi i2.RM] ?_
   obtain ⟨r_2, hr_2, h⟩ := bind_s h
   have hc_2 := hansomref17_Byte_L i2.RM r_2 hr_2
   refine Rt (some 26) (.callf 12) [] none [.i i2.RM] (.d (.str r_2)) [] (cc hc_2) <| Rc 1 [⟨.d (.str r_2), []⟩] <| Rk <| Runs.ret <| kS_ret <| kB_ret <| kS_ret ?_
   cases h
   exact Fq
  | false =>
   replace h := ite_f hb_3 h
   refine Cf <| Runs.skip <| kS_nrm <| Sq <| Ro <| Rc 1 [⟨.d (Inst.d i2), []⟩] ?_
   obtain ⟨r_3, hr_3, h⟩ := bind_s h
   have hc_3 := hansomref17_place_L i2 r_3 hr_3
   refine Rt (some 28) (.callf 47) [] none [.d (Inst.d i2)] (.d (.str r_3)) [] (cc hc_3) ?_
   obtain ⟨z_2, hz_2, h⟩ := bind_s h
   refine Rt (some 29) (.bin .add) [] none [.d (.str ([66, 89, 84, 69, 32] : List UInt8)), .d (.str r_3)] (.d (.str z_2)) [] (cut_cat hz_2) <| Rc 1 [⟨.d (.str z_2), []⟩] <| Rk <| Runs.ret <| kB_ret <| kS_ret ?_
   cases h
   exact Fq
 | false =>
  replace h := ite_f hb_2 h
  refine Cf <| Sq <| Ro <| Rc 2 [vb (k1 == 2), vb (k1 == 2)] <| Rk ?_
  cases hb_4 : ((k1 == 2) : Bool) with
  | true =>
   replace h := ite_t hb_4 h
   refine Ct <| Sq <| Sq <| Ro <| Rc 3 [vp [2] 0 4, vi i2.Mod, vb (i2.Mod == 3)] <| Rk ?_
   cases hb_5 : ((i2.Mod == 3) : Bool) with
   | true =>
    replace h := ite_t hb_5 h
    refine Ct <| Sq <| Ro <| Rc 2 [vp [2] 0 6, vi i2.RM] ?_
    obtain ⟨r_4, hr_4, h⟩ := bind_s h
    have hc_4 := hansomref17_Reg_L i2.RM r_4 hr_4
    refine Rt (some 37) (.callf 10) [] none [.i i2.RM] (.d (.str r_4)) [] (cc hc_4) <| Rc 1 [⟨.d (.str r_4), []⟩] <| Rk <| Runs.ret <| kS_ret <| kB_ret <| kS_ret ?_
    cases h
    exact Fq
   | false =>
    replace h := ite_f hb_5 h
    refine Cf <| Runs.skip <| kS_nrm <| Sq <| Ro <| Rc 1 [⟨.d (Inst.d i2), []⟩] ?_
    obtain ⟨r_5, hr_5, h⟩ := bind_s h
    have hc_5 := hansomref17_place_L i2 r_5 hr_5
    refine Rt (some 39) (.callf 47) [] none [.d (Inst.d i2)] (.d (.str r_5)) [] (cc hc_5) ?_
    obtain ⟨z_3, hz_3, h⟩ := bind_s h
    refine Rt (some 40) (.bin .add) [] none [.d (.str ([87, 79, 82, 68, 32] : List UInt8)), .d (.str r_5)] (.d (.str z_3)) [] (cut_cat hz_3) <| Rc 1 [⟨.d (.str z_3), []⟩] <| Rk <| Runs.ret <| kB_ret <| kS_ret ?_
    cases h
    exact Fq
  | false =>
   replace h := ite_f hb_4 h
   refine Cf <| Sq <| Ro <| Rc 2 [vb (k1 == 3), vb (k1 == 3)] <| Rk ?_
   cases hb_6 : ((k1 == 3) : Bool) with
   | true =>
    replace h := ite_t hb_6 h
    refine Ct <| Sq <| Ro <| Rc 2 [vp [2] 0 5, vi i2.Reg] ?_
    obtain ⟨r_6, hr_6, h⟩ := bind_s h
    have hc_6 := hansomref17_Byte_L i2.Reg r_6 hr_6
    refine Rt (some 45) (.callf 12) [] none [.i i2.Reg] (.d (.str r_6)) [] (cc hc_6) <| Rc 1 [⟨.d (.str r_6), []⟩] <| Rk <| Runs.ret <| kB_ret <| kS_ret ?_
    cases h
    exact Fq
   | false =>
    replace h := ite_f hb_6 h
    refine Cf <| Sq <| Ro <| Rc 2 [vb (k1 == 4), vb (k1 == 4)] <| Rk ?_
    cases hb_7 : ((k1 == 4) : Bool) with
    | true =>
     replace h := ite_t hb_7 h
     refine Ct <| Sq <| Ro <| Rc 2 [vp [2] 0 5, vi i2.Reg] ?_
     obtain ⟨r_7, hr_7, h⟩ := bind_s h
     have hc_7 := hansomref17_Reg_L i2.Reg r_7 hr_7
     refine Rt (some 50) (.callf 10) [] none [.i i2.Reg] (.d (.str r_7)) [] (cc hc_7) <| Rc 1 [⟨.d (.str r_7), []⟩] <| Rk <| Runs.ret <| kB_ret <| kS_ret ?_
     cases h
     exact Fq
    | false =>
     replace h := ite_f hb_7 h
     refine Cf <| Sq <| Ro <| Rc 2 [vb (k1 == 5), vb (k1 == 5)] <| Rk ?_
     cases hb_8 : ((k1 == 5) : Bool) with
     | true =>
      replace h := ite_t hb_8 h
      refine Ct <| Sq <| Ro <| Rc 2 [vp [2] 0 5, vi i2.Reg] ?_
      obtain ⟨r_8, hr_8, h⟩ := bind_s h
      have hc_8 := hansomref17_Seg_L i2.Reg r_8 hr_8
      refine Rt (some 55) (.callf 14) [] none [.i i2.Reg] (.d (.str r_8)) [] (cc hc_8) <| Rc 1 [⟨.d (.str r_8), []⟩] <| Rk <| Runs.ret <| kB_ret <| kS_ret ?_
      cases h
      exact Fq
     | false =>
      replace h := ite_f hb_8 h
      refine Cf <| Sq <| Ro <| Rc 2 [vb (k1 == 6), vb (k1 == 6)] <| Rk ?_
      cases hb_9 : ((k1 == 6) : Bool) with
      | true =>
       replace h := ite_t hb_9 h
       refine Ct <| Sq <| Ro <| Rc 1 [vu n6] ?_
       obtain ⟨r_9, hr_9, h⟩ := bind_s h
       have hc_9 := hansomref01_Hex_L n6 2 r_9 hr_9
       refine Rt (some 59) (.callf 48) [] none [.u n6, .i 2] (.d (.str r_9)) [] (cc hc_9) <| Rc 1 [⟨.d (.str r_9), []⟩] <| Rk <| Runs.ret <| kB_ret <| kS_ret ?_
       cases h
       exact Fq
      | false =>
       replace h := ite_f hb_9 h
       refine Cf <| Sq <| Sq <| Ro <| Rc 2 [vb (k1 == 7), vb (k1 == 7)] <| Rk ?_
       cases hb_10 : ((k1 == 7) : Bool) with
       | true =>
        replace h := ite_t hb_10 h
        refine Ct <| Runs.skip <| kS_nrm <| Runs.canon (hansomref17_operand_h72 i2 k1 s5 n6 k1 true) Cz ?_
        exact hansomref17_operand_j72_ok i_ k_ i2 k1 s5 n6 k1 true r h
       | false =>
        replace h := ite_f hb_10 h
        refine Cf <| Ro <| Rc 2 [vb (k1 == 8), vb (k1 == 8)] <| Rk <| Runs.canon (hansomref17_operand_h72 i2 k1 s5 n6 k1 (k1 == 8)) Cz ?_
        exact hansomref17_operand_j72_ok i_ k_ i2 k1 s5 n6 k1 (k1 == 8) r h
theorem hansomref17_operand_ok (i_ : Inst) (k_ : Int) (r : (List UInt8)) (h : hansomref17_operand i_ k_ = some r) : Runs L F33.body ⟨tmOf [.d (Inst.d i_), .i k_] 0, updW (fun _ => none) []⟩ (hansomref17_operand_Q i_ k_ r) := by
 unfold hansomref17_operand at h
 refine Sq <| Ro <| Rc 2 [⟨.ptr [2] 0 0, [([2], some (.cells [.b i_.Lock, .i i_.Rep, .i i_.Seg, .y i_.Op, .i i_.Mod, .i i_.Reg, .i i_.RM, .w i_.Disp, .w i_.Imm, .w i_.Sel] 0))]⟩, ⟨.d (.str ([] : List UInt8)), []⟩] <| Rk <| Sq <| Ro <| Rc 5 [vp [2] 0 8, vw i_.Imm, vu (IntKind.wrap .u32 i_.Imm), ⟨.d (.str ([] : List UInt8)), []⟩, vu (IntKind.wrap .u32 i_.Imm)] <| Rk <| Sq <| Sq <| Ro <| Rc 3 [vp [2] 0 2, vi i_.Seg, vb (decide (i_.Seg > 0))] <| Rk ?_
 cases hb_1 : ((decide (i_.Seg > 0)) : Bool) with
 | true =>
  replace h := ite_t hb_1 h
  refine Ct <| Ro <| Rc 3 [vp [2] 0 2, vi i_.Seg, vi (IntKind.wrap .i64 (i_.Seg - 1))] ?_
  obtain ⟨r_1, hr_1, h⟩ := bind_s h
  have hc_1 := hansomref17_Seg_L (IntKind.wrap .i64 (i_.Seg - 1)) r_1 hr_1
  refine Rt (some 16) (.callf 14) [] none [.i (IntKind.wrap .i64 (i_.Seg - 1))] (.d (.str r_1)) [] (cc hc_1) ?_
  obtain ⟨z_1, hz_1, h⟩ := bind_s h
  refine Rt (some 17) (.bin .add) [] none [.d (.str r_1), .d (.str ([58] : List UInt8))] (.d (.str z_1)) [] (cut_cat hz_1) <| Rc 1 [⟨.d (.str z_1), []⟩] <| Rk <| Runs.canon (hansomref17_operand_h10 i_ k_ z_1 (IntKind.wrap .u32 i_.Imm)) Cz ?_
  exact hansomref17_operand_j10_ok i_ k_ i_ k_ z_1 (IntKind.wrap .u32 i_.Imm) r h
 | false =>
  replace h := ite_f hb_1 h
  refine Cf <| Runs.skip <| kS_nrm <| Runs.canon (hansomref17_operand_h10 i_ k_ ([] : List UInt8) (IntKind.wrap .u32 i_.Imm)) Cz ?_
  exact hansomref17_operand_j10_ok i_ k_ i_ k_ ([] : List UInt8) (IntKind.wrap .u32 i_.Imm) r h
theorem hansomref17_operand_L (i_ : Inst) (k_ : Int) (r : (List UInt8)) (h : hansomref17_operand i_ k_ = some r) : L 33 [.d (Inst.d i_), .i k_] = some (.d (.str r), [.d (Inst.d i_), .i k_]) := by
 obtain ⟨p, ⟨hne, hf⟩, hr⟩ := hansomref17_operand_ok i_ k_ r h
 obtain ⟨k, hk⟩ := run_of (F := F33) (args := [.d (Inst.d i_), .i k_]) (ap := [.d (Inst.d i_), .i k_]) (bx0 := updW (fun _ => none) []) rfl rfl (by kernel_rfl) ⟨p, ⟨hne, hf⟩, hr⟩
 exact lim_run (k := k) rfl hk
def hansomref17_Text_h12 (i1 : Inst) (r3 : Row) (s5 : (List UInt8)) : St := ⟨tab [(1, .ptr [1] 0 0), (3, .ptr [3] 0 0), (5, .d (.str s5))], tabB [([1], some (.cells [.b i1.Lock, .i i1.Rep, .i i1.Seg, .y i1.Op, .i i1.Mod, .i i1.Reg, .i i1.RM, .w i1.Disp, .w i1.Imm, .w i1.Sel] 0)), ([3], some (.cells [.i r3.Name, .i r3.A, .i r3.B, .b r3.Mod] 0))]⟩
def hansomref17_Text_h18 (i1 : Inst) (r3 : Row) (s5 : (List UInt8)) : St := ⟨tab [(1, .ptr [1] 0 0), (3, .ptr [3] 0 0), (5, .d (.str s5))], tabB [([1], some (.cells [.b i1.Lock, .i i1.Rep, .i i1.Seg, .y i1.Op, .i i1.Mod, .i i1.Reg, .i i1.RM, .w i1.Disp, .w i1.Imm, .w i1.Sel] 0)), ([3], some (.cells [.i r3.Name, .i r3.A, .i r3.B, .b r3.Mod] 0))]⟩
def hansomref17_Text_h24 (i1 : Inst) (r3 : Row) (s5 : (List UInt8)) : St := ⟨tab [(1, .ptr [1] 0 0), (3, .ptr [3] 0 0), (5, .d (.str s5))], tabB [([1], some (.cells [.b i1.Lock, .i i1.Rep, .i i1.Seg, .y i1.Op, .i i1.Mod, .i i1.Reg, .i i1.RM, .w i1.Disp, .w i1.Imm, .w i1.Sel] 0)), ([3], some (.cells [.i r3.Name, .i r3.A, .i r3.B, .b r3.Mod] 0))]⟩
def hansomref17_Text_h29 (i1 : Inst) (s5 : (List UInt8)) (t35 : (List Int)) (t36 : Int) (t37 : Int) : St := ⟨tab [(1, .ptr [1] 0 0), (5, .d (.str s5)), (35, .d (.sl (List.map (D.int .i64) t35))), (36, .i t36), (37, .i t37)], tabB [([1], some (.cells [.b i1.Lock, .i i1.Rep, .i i1.Seg, .y i1.Op, .i i1.Mod, .i i1.Reg, .i i1.RM, .w i1.Disp, .w i1.Imm, .w i1.Sel] 0))]⟩
def hansomref17_Text_h30 (i1 : Inst) (s5 : (List UInt8)) (t35 : (List Int)) (t36 : Int) (t37 : Int) : St := ⟨tab [(1, .ptr [1] 0 0), (5, .d (.str s5)), (35, .d (.sl (List.map (D.int .i64) t35))), (36, .i t36), (37, .i t37)], tabB [([1], some (.cells [.b i1.Lock, .i i1.Rep, .i i1.Seg, .y i1.Op, .i i1.Mod, .i i1.Reg, .i i1.RM, .w i1.Disp, .w i1.Imm, .w i1.Sel] 0))]⟩
def hansomref17_Text_h61 (s5 : (List UInt8)) : St := ⟨tab [(5, .d (.str s5))], tabB []⟩
def hansomref17_Text_Q (i_ : Inst) (r : (List UInt8)) (p : Out × St) : Prop := (∀ i, p.1 ≠ .exit i) ∧ finF F18 [.d (Inst.d i_)] p.2 = some (.d (.str r), [.d (Inst.d i_)])
def hansomref17_Text_P30 (i_ : Inst) (i1 : Inst) (t35 : (List Int)) (t36 : Int) (e : (List UInt8)) (p : Out × St) : Prop := p.1 = .exit 0 ∧ ∃ g : Unit, Canon [] [5] [] p.2 (hansomref17_Text_h61 e)
theorem hansomref17_Text_l30_ok (i_ : Inst) (i1 : Inst) (s5 : (List UInt8)) (t35 : (List Int)) (t36 : Int) (t37 : Int) (r : (Lp ((List UInt8) × Int) (List UInt8))) (h : hansomref17_Text_l30 i1 s5 t35 t36 t37 = some r) : Runs L F18l30 (hansomref17_Text_h30 i1 s5 t35 t36 t37) (LQ [.frz 35] [1, 5, 35, 36, 37] [[1]] (fun (x : ((List UInt8) × Int)) (g : Unit) => hansomref17_Text_h30 i1 x.1 t35 t36 x.2) (hansomref17_Text_P30 i_ i1 t35 t36) r) := by
 unfold hansomref17_Text_l30 at h
 refine Sq <| Ro <| Rc 1 [vb (decide (t37 < t36))] <| Rk <| Sq ?_
 cases hb_4 : ((decide (t37 < t36)) : Bool) with
 | true =>
  replace h := ite_t hb_4 h
  refine Ct <| Runs.skip <| kS_nrm <| Sq <| Runs.block <| Sq <| Ro <| Rc 1 [vi t37] ?_
  obtain ⟨z_4, hz_4, h⟩ := bind_s h
  refine Rt (some 40) (.iaddrS 1) [] none [.d (.sl (List.map (D.int .i64) t35)), .i t37] (.elt (.int .i64 z_4) 0) [] (cut_at hz_4 (fun _ => rfl)) <| Rc 3 [vi z_4, vi t37, vi z_4] <| Rk <| Sq <| Sq <| Ro <| Rc 2 [vi z_4, vb (z_4 == 0)] <| Rk ?_
  cases hb_5 : ((z_4 == 0) : Bool) with
  | true =>
   replace h := ite_t hb_5 h
   refine Ct <| Runs.exit <| kS_exit <| kB_hit <| kS_nrm <| Ro <| Rc 2 [vi (IntKind.wrap .i64 (t37 + 1)), vi (IntKind.wrap .i64 (t37 + 1))] <| Rd ?_
   obtain rfl := sj h
   exact ⟨rfl, (), (Canon.same (by kernel_rfl) Cz)⟩
  | false =>
   replace h := ite_f hb_5 h
   refine Cf <| Runs.skip <| kS_nrm <| Sq <| Ro <| Rc 2 [⟨.d (Inst.d i1), []⟩, vi z_4] ?_
   obtain ⟨r_3, hr_3, h⟩ := bind_s h
   have hc_3 := hansomref17_operand_L i1 z_4 r_3 hr_3
   refine Rt (some 46) (.callf 33) [] none [.d (Inst.d i1), .i z_4] (.d (.str r_3)) [] (cc hc_3) <| Rc 1 [⟨.d (.str r_3), []⟩] <| Rk <| Sq <| Sq <| Ro <| Rc 2 [vi z_4, vb (z_4 == 24)] <| Rk ?_
   cases hb_6 : ((z_4 == 24) : Bool) with
   | true =>
    replace h := ite_t hb_6 h
    refine Ct <| Ro <| Rc 1 [⟨.d (.str ([51] : List UInt8)), []⟩] <| Rk <| Sq <| Ro <| Rc 2 [vi t37, vb (t37 == 0)] <| Rk ?_
    cases hb_7 : ((t37 == 0) : Bool) with
    | true =>
     replace h := ite_t hb_7 h
     refine Ct <| Ro <| Rc 2 [⟨.d (.str s5), []⟩, ⟨.d (.str ([51] : List UInt8)), []⟩] ?_
     obtain ⟨z_5, hz_5, h⟩ := bind_s h
     refine Rt (some 53) (.bin .add) [] none [.d (.str ([32] : List UInt8)), .d (.str ([51] : List UInt8))] (.d (.str z_5)) [] (cut_cat hz_5) ?_
     obtain ⟨z_6, hz_6, h⟩ := bind_s h
     refine Rt (some 54) (.bin .add) [] none [.d (.str s5), .d (.str z_5)] (.d (.str z_6)) [] (cut_cat hz_6) <| Rc 1 [⟨.d (.str z_6), []⟩] <| Rd <| kB_nrm <| kS_nrm <| Ro <| Rc 2 [vi (IntKind.wrap .i64 (t37 + 1)), vi (IntKind.wrap .i64 (t37 + 1))] <| Rd ?_
     obtain rfl := sj h
     exact ⟨rfl, (), (Canon.same (by kernel_rfl) Cz)⟩
    | false =>
     replace h := ite_f hb_7 h
     refine Cf <| Ro <| Rc 2 [⟨.d (.str s5), []⟩, ⟨.d (.str ([51] : List UInt8)), []⟩] ?_
     obtain ⟨z_7, hz_7, h⟩ := bind_s h
     refine Rt (some 57) (.bin .add) [] none [.d (.str ([44] : List UInt8)), .d (.str ([51] : List UInt8))] (.d (.str z_7)) [] (cut_cat hz_7) ?_
     obtain ⟨z_8, hz_8, h⟩ := bind_s h
     refine Rt (some 58) (.bin .add) [] none [.d (.str s5), .d (.str z_7)] (.d (.str z_8)) [] (cut_cat hz_8) <| Rc 1 [⟨.d (.str z_8), []⟩] <| Rd <| kB_nrm <| kS_nrm <| Ro <| Rc 2 [vi (IntKind.wrap .i64 (t37 + 1)), vi (IntKind.wrap .i64 (t37 + 1))] <| Rd ?_
     obtain rfl := sj h
     exact ⟨rfl, (), (Canon.same (by kernel_rfl) Cz)⟩
   | false =>
    replace h := ite_f hb_6 h
    refine Cf <| Runs.skip <| kS_nrm <| Sq <| Ro <| Rc 2 [vi t37, vb (t37 == 0)] <| Rk ?_
    cases hb_8 : ((t37 == 0) : Bool) with
    | true =>
     replace h := ite_t hb_8 h
     refine Ct <| Ro <| Rc 2 [⟨.d (.str s5), []⟩, ⟨.d (.str r_3), []⟩] ?_
     obtain ⟨z_9, hz_9, h⟩ := bind_s h
     refine Rt (some 53) (.bin .add) [] none [.d (.str ([32] : List UInt8)), .d (.str r_3)] (.d (.str z_9)) [] (cut_cat hz_9) ?_
     obtain ⟨z_10, hz_10, h⟩ := bind_s h
     refine Rt (some 54) (.bin .add) [] none [.d (.str s5), .d (.str z_9)] (.d (.str z_10)) [] (cut_cat hz_10) <| Rc 1 [⟨.d (.str z_10), []⟩] <| Rd <| kB_nrm <| kS_nrm <| Ro <| Rc 2 [vi (IntKind.wrap .i64 (t37 + 1)), vi (IntKind.wrap .i64 (t37 + 1))] <| Rd ?_
     obtain rfl := sj h
     exact ⟨rfl, (), (Canon.same (by kernel_rfl) Cz)⟩
    | false =>
     replace h := ite_f hb_8 h
     refine Cf <| Ro <| Rc 2 [⟨.d (.str s5), []⟩, ⟨.d (.str r_3), []⟩] ?_
     obtain ⟨z_11, hz_11, h⟩ := bind_s h
     refine Rt (some 57) (.bin .add) [] none [.d (.str ([44] : List UInt8)), .d (.str r_3)] (.d (.str z_11)) [] (cut_cat hz_11) ?_
     obtain ⟨z_12, hz_12, h⟩ := bind_s h
     refine Rt (some 58) (.bin .add) [] none [.d (.str s5), .d (.str z_11)] (.d (.str z_12)) [] (cut_cat hz_12) <| Rc 1 [⟨.d (.str z_12), []⟩] <| Rd <| kB_nrm <| kS_nrm <| Ro <| Rc 2 [vi (IntKind.wrap .i64 (t37 + 1)), vi (IntKind.wrap .i64 (t37 + 1))] <| Rd ?_
     obtain rfl := sj h
     exact ⟨rfl, (), (Canon.same (by kernel_rfl) Cz)⟩
 | false =>
  replace h := ite_f hb_4 h
  refine Cf <| Runs.exit <| kS_exit ?_
  obtain rfl := sj h
  exact ⟨nofun, rfl, (), Cz⟩
theorem hansomref17_Text_j24_ok (i_ : Inst) (i1 : Inst) (r3 : Row) (s5 : (List UInt8)) (r : (List UInt8)) (h : hansomref17_Text_j24 i1 r3 s5 = some r) : Runs L F18b24 (hansomref17_Text_h24 i1 r3 s5) (hansomref17_Text_Q i_ r) := by
 unfold hansomref17_Text_j24 at h
 refine Sq <| Ro <| Rc 3 [⟨.d (.str s5), []⟩, vp [3] 0 0, vi r3.Name] ?_
 obtain ⟨r_2, hr_2, h⟩ := bind_s h
 have hc_2 := hansomref04_Name_L r3.Name r_2 hr_2
 refine Rt (some 29) (.callf 8) [] none [.i r3.Name] (.d (.str r_2)) [] (cc hc_2) ?_
 obtain ⟨z_3, hz_3, h⟩ := bind_s h
 refine Rt (some 30) (.bin .add) [] none [.d (.str s5), .d (.str r_2)] (.d (.str z_3)) [] (cut_cat hz_3) <| Rc 1 [⟨.d (.str z_3), []⟩] <| Rk <| Sq <| Sq <| Ro <| Rc 5 [vp [3] 0 1, vi r3.A, vp [3] 0 2, vi r3.B, ⟨.ref [35] 0 0 (List.map (D.int .i64) ([r3.A, r3.B] : List Int)).length 1, [([35], some (.arr (List.map (D.int .i64) ([r3.A, r3.B] : List Int)) 0 false))]⟩] <| Rt (some 36) .lenL [] none [.ref [35] 0 0 (List.map (D.int .i64) ([r3.A, r3.B] : List Int)).length 1] (.i (([r3.A, r3.B] : List Int).length : Int)) [] (cut_lenR (e := (D.int .i64)) ([r3.A, r3.B] : List Int) rfl) <| Rc 1 [vi 0] <| Rk <| Runs.canon (hansomref17_Text_h29 i1 z_3 ([r3.A, r3.B] : List Int) (([r3.A, r3.B] : List Int).length : Int) 0) (Canon.cons (frz_ref (e := (D.int .i64)) (l := ([r3.A, r3.B] : List Int)) (id := [35]) (v := 0) (n := 1) (fz := false) (by kernel_rfl) (by kernel_rfl) rfl) Cz) <| Runs.block ?_
 obtain ⟨e_1, he_1, h⟩ := bind_s h
 refine Runs.loop (fun x : ((List UInt8) × Int) => hansomref17_Text_l30 i1 x.1 ([r3.A, r3.B] : List Int) (([r3.A, r3.B] : List Int).length : Int) x.2) (fun (x : ((List UInt8) × Int)) (g : Unit) => hansomref17_Text_h30 i1 x.1 ([r3.A, r3.B] : List Int) (([r3.A, r3.B] : List Int).length : Int) x.2) (hansomref17_Text_P30 i_ i1 ([r3.A, r3.B] : List Int) (([r3.A, r3.B] : List Int).length : Int)) (fun x g r hr => hansomref17_Text_l30_ok i_ i1 x.1 ([r3.A, r3.B] : List Int) (([r3.A, r3.B] : List Int).length : Int) x.2  r hr) () he_1 (Canon.same (by kernel_rfl) Cz) ?_
 rintro ⟨o, s⟩ hp
 obtain ⟨ho, g_1, hk_1⟩ := hp
 have ho' : o = .exit 0 := ho
 subst ho'
 refine kB_hit <| kS_nrm <| Runs.canon _ hk_1 <| Sq <| Ro <| Rc 2 [⟨.d (.str e_1), []⟩, ⟨.d (.str e_1), []⟩] <| Rk <| Runs.ret ?_
 cases h
 exact Fq
theorem hansomref17_Text_j18_ok (i_ : Inst) (i1 : Inst) (r3 : Row) (s5 : (List UInt8)) (r : (List UInt8)) (h : hansomref17_Text_j18 i1 r3 s5 = some r) : Runs L F18b18 (hansomref17_Text_h18 i1 r3 s5) (hansomref17_Text_Q i_ r) := by
 unfold hansomref17_Text_j18 at h
 refine Sq <| Sq <| Ro <| Rc 3 [vp [1] 0 1, vi i1.Rep, vb (i1.Rep == 2)] <| Rk ?_
 cases hb_3 : ((i1.Rep == 2) : Bool) with
 | true =>
  replace h := ite_t hb_3 h
  refine Ct <| Ro <| Rc 1 [⟨.d (.str s5), []⟩] ?_
  obtain ⟨z_2, hz_2, h⟩ := bind_s h
  refine Rt (some 25) (.bin .add) [] none [.d (.str s5), .d (.str ([82, 69, 80, 32] : List UInt8))] (.d (.str z_2)) [] (cut_cat hz_2) <| Rc 1 [⟨.d (.str z_2), []⟩] <| Rk <| Runs.canon (hansomref17_Text_h24 i1 r3 z_2) Cz ?_
  exact hansomref17_Text_j24_ok i_ i1 r3 z_2 r h
 | false =>
  replace h := ite_f hb_3 h
  refine Cf <| Runs.skip <| kS_nrm <| Runs.canon (hansomref17_Text_h24 i1 r3 s5) Cz ?_
  exact hansomref17_Text_j24_ok i_ i1 r3 s5 r h
theorem hansomref17_Text_j12_ok (i_ : Inst) (i1 : Inst) (r3 : Row) (s5 : (List UInt8)) (r : (List UInt8)) (h : hansomref17_Text_j12 i1 r3 s5 = some r) : Runs L F18b12 (hansomref17_Text_h12 i1 r3 s5) (hansomref17_Text_Q i_ r) := by
 unfold hansomref17_Text_j12 at h
 refine Sq <| Sq <| Ro <| Rc 3 [vp [1] 0 1, vi i1.Rep, vb (i1.Rep == 1)] <| Rk ?_
 cases hb_2 : ((i1.Rep == 1) : Bool) with
 | true =>
  replace h := ite_t hb_2 h
  refine Ct <| Ro <| Rc 1 [⟨.d (.str s5), []⟩] ?_
  obtain ⟨z_1, hz_1, h⟩ := bind_s h
  refine Rt (some 20) (.bin .add) [] none [.d (.str s5), .d (.str ([82, 69, 80, 78, 69, 32] : List UInt8))] (.d (.str z_1)) [] (cut_cat hz_1) <| Rc 1 [⟨.d (.str z_1), []⟩] <| Rk <| Runs.canon (hansomref17_Text_h18 i1 r3 z_1) Cz ?_
  exact hansomref17_Text_j18_ok i_ i1 r3 z_1 r h
 | false =>
  replace h := ite_f hb_2 h
  refine Cf <| Runs.skip <| kS_nrm <| Runs.canon (hansomref17_Text_h18 i1 r3 s5) Cz ?_
  exact hansomref17_Text_j18_ok i_ i1 r3 s5 r h
theorem hansomref17_Text_ok (i_ : Inst) (r : (List UInt8)) (h : hansomref17_Text i_ = some r) : Runs L F18.body ⟨tmOf [.d (Inst.d i_)] 0, updW (fun _ => none) []⟩ (hansomref17_Text_Q i_ r) := by
 unfold hansomref17_Text at h
 refine Sq <| Ro <| Rc 2 [⟨.ptr [1] 0 0, [([1], some (.cells [.b i_.Lock, .i i_.Rep, .i i_.Seg, .y i_.Op, .i i_.Mod, .i i_.Reg, .i i_.RM, .w i_.Disp, .w i_.Imm, .w i_.Sel] 0))]⟩, ⟨.d (.str ([] : List UInt8)), []⟩] <| Rk <| Sq <| Ro <| Rc 1 [⟨.d (Inst.d i_), []⟩] ?_
 obtain ⟨r_1, hr_1, h⟩ := bind_s h
 have hc_1 := hansomref05_Row_L i_ r_1 hr_1
 refine Rt (some 11) (.callf 24) [] none [.d (Inst.d i_)] (.tup [.d (Row.d r_1.1), .b r_1.2]) [] (cc hc_1) <| Rc 6 [⟨.tup [.d (Row.d r_1.1), .b r_1.2], []⟩, ⟨.d (Row.d r_1.1), []⟩, vb r_1.2, ⟨.ptr [3] 0 0, [([3], some (.cells [.i 0, .i 0, .i 0, .b false] 0))]⟩, ⟨.tup [], [([3], some (.cells [.i r_1.1.Name, .i r_1.1.A, .i r_1.1.B, .b r_1.1.Mod] 0))]⟩, vb r_1.2] <| Rk <| Sq <| Ro <| Rc 1 [⟨.d (.str ([] : List UInt8)), []⟩] <| Rk <| Sq <| Sq <| Ro <| Rc 2 [vp [1] 0 0, vb i_.Lock] <| Rk ?_
 cases hb_1 : (i_.Lock : Bool) with
 | true =>
  replace h := ite_t hb_1 h
  refine Ct <| Ro <| Rc 1 [⟨.d (.str ([76, 79, 67, 75, 32] : List UInt8)), []⟩] <| Rk <| Runs.canon (hansomref17_Text_h12 ({ i_ with Lock := true } : Inst) r_1.1 ([76, 79, 67, 75, 32] : List UInt8)) Cz ?_
  exact hansomref17_Text_j12_ok i_ ({ i_ with Lock := true } : Inst) r_1.1 ([76, 79, 67, 75, 32] : List UInt8) r h
 | false =>
  replace h := ite_f hb_1 h
  refine Cf <| Runs.skip <| kS_nrm <| Runs.canon (hansomref17_Text_h12 ({ i_ with Lock := false } : Inst) r_1.1 ([] : List UInt8)) Cz ?_
  exact hansomref17_Text_j12_ok i_ ({ i_ with Lock := false } : Inst) r_1.1 ([] : List UInt8) r h
theorem hansomref17_Text_L (i_ : Inst) (r : (List UInt8)) (h : hansomref17_Text i_ = some r) : L 18 [.d (Inst.d i_)] = some (.d (.str r), [.d (Inst.d i_)]) := by
 obtain ⟨p, ⟨hne, hf⟩, hr⟩ := hansomref17_Text_ok i_ r h
 obtain ⟨k, hk⟩ := run_of (F := F18) (args := [.d (Inst.d i_)]) (ap := [.d (Inst.d i_)]) (bx0 := updW (fun _ => none) []) rfl rfl (by kernel_rfl) ⟨p, ⟨hne, hf⟩, hr⟩
 exact lim_run (k := k) rfl hk
def hansomlaw17_DispOwn_Q (x_ : Inst) (y_ : Inst) (r : Bool) (p : Out × St) : Prop := (∀ i, p.1 ≠ .exit i) ∧ finF F4 [.d (Inst.d x_), .d (Inst.d y_)] p.2 = some (.b r, [.d (Inst.d x_), .d (Inst.d y_)])
theorem hansomlaw17_DispOwn_ok (x_ : Inst) (y_ : Inst) (r : Bool) (h : hansomlaw17_DispOwn x_ y_ = some r) : Runs L F4.body ⟨tmOf [.d (Inst.d x_), .d (Inst.d y_)] 0, updW (fun _ => none) []⟩ (hansomlaw17_DispOwn_Q x_ y_ r) := by
 unfold hansomlaw17_DispOwn at h
 refine Sq <| Ro <| Rc 3 [⟨.ptr [2] 0 0, [([2], some (.cells [.b x_.Lock, .i x_.Rep, .i x_.Seg, .y x_.Op, .i x_.Mod, .i x_.Reg, .i x_.RM, .w x_.Disp, .w x_.Imm, .w x_.Sel] 0))]⟩, ⟨.ptr [3] 0 0, [([3], some (.cells [.b y_.Lock, .i y_.Rep, .i y_.Seg, .y y_.Op, .i y_.Mod, .i y_.Reg, .i y_.RM, .w y_.Disp, .w y_.Imm, .w y_.Sel] 0))]⟩, vb false] <| Rk <| Sq <| Ro <| Rc 1 [⟨.d (Inst.d x_), []⟩] ?_
 obtain ⟨r_1, hr_1, h⟩ := bind_s h
 have hc_1 := hansomref05_Near_L x_ r_1 hr_1
 refine Rt (some 8) (.callf 16) [[5], [6]] (some []) [.d (Inst.d x_)] (.d (Inst.d r_1)) [] (cc hc_1) <| Rc 1 [⟨.d (Inst.d y_), []⟩] ?_
 obtain ⟨r_2, hr_2, h⟩ := bind_s h
 have hc_2 := hansomref05_Near_L y_ r_2 hr_2
 refine Rt (some 10) (.callf 16) [[5], [6]] (some []) [.d (Inst.d y_)] (.d (Inst.d r_2)) [] (cc hc_2) <| Rc 4 [⟨.ptr [5] 0 0, [([5], some (.cells [.b false, .i 0, .i 0, .y 0, .i 0, .i 0, .i 0, .w 0, .w 0, .w 0] 0))]⟩, ⟨.ptr [6] 0 0, [([6], some (.cells [.b false, .i 0, .i 0, .y 0, .i 0, .i 0, .i 0, .w 0, .w 0, .w 0] 0))]⟩, ⟨.tup [], [([5], some (.cells [.b r_1.Lock, .i r_1.Rep, .i r_1.Seg, .y r_1.Op, .i r_1.Mod, .i r_1.Reg, .i r_1.RM, .w r_1.Disp, .w r_1.Imm, .w r_1.Sel] 0))]⟩, ⟨.tup [], [([6], some (.cells [.b r_2.Lock, .i r_2.Rep, .i r_2.Seg, .y r_2.Op, .i r_2.Mod, .i r_2.Reg, .i r_2.RM, .w r_2.Disp, .w r_2.Imm, .w r_2.Sel] 0))]⟩] <| Rk <| Sq <| Ro <| Rc 4 [vp [5] 0 3, vy r_1.Op, vp [6] 0 3, ⟨.tup [], [([6], some (.cells [.b r_2.Lock, .i r_2.Rep, .i r_2.Seg, .y r_1.Op, .i r_2.Mod, .i r_2.Reg, .i r_2.RM, .w r_2.Disp, .w r_2.Imm, .w r_2.Sel] 0))]⟩] ?_
 refine Rk <| Sq <| Ro <| Rc 1 [⟨.d (.agg [.bool r_2.Lock, .int .i64 r_2.Rep, .int .i64 r_2.Seg, .int .u8 r_1.Op, .int .i64 r_2.Mod, .int .i64 r_2.Reg, .int .i64 r_2.RM, .int .u16 r_2.Disp, .int .u16 r_2.Imm, .int .u16 r_2.Sel]), []⟩] ?_
 obtain ⟨r_3, hr_3, h⟩ := bind_s h
 have hc_3 := hansomref05_Near_L ({ r_2 with Op := r_1.Op } : Inst) r_3 hr_3
 refine Rt (some 15) (.callf 16) [] none [.d (.agg [.bool r_2.Lock, .int .i64 r_2.Rep, .int .i64 r_2.Seg, .int .u8 r_1.Op, .int .i64 r_2.Mod, .int .i64 r_2.Reg, .int .i64 r_2.RM, .int .u16 r_2.Disp, .int .u16 r_2.Imm, .int .u16 r_2.Sel])] (.d (Inst.d r_3)) [] (cc hc_3) <| Rc 1 [⟨.tup [], [([6], some (.cells [.b r_3.Lock, .i r_3.Rep, .i r_3.Seg, .y r_3.Op, .i r_3.Mod, .i r_3.Reg, .i r_3.RM, .w r_3.Disp, .w r_3.Imm, .w r_3.Sel] 0))]⟩] <| Rk <| Sq <| Sq <| Ro <| Rc 6 [vp [6] 0 3, vy r_3.Op, vp [5] 0 3, vy r_1.Op, vb (r_3.Op != r_1.Op), vb (r_3.Op != r_1.Op)] ?_
 cases hb_1 : ((r_3.Op != r_1.Op) : Bool) with
 | true =>
  replace h := ite_t hb_1 h
  refine Rc 9 [vn, vn, vn, vb true, vb true, vn, vn, vn, vb true] <| Rk <| Ct <| Sq <| Ro ?_
  obtain ⟨r_4, hr_4, h⟩ := bind_s h
  have hc_4 := hansomlaw17_awake_L r_4 hr_4
  refine Rt (some 31) (.callf 6) [] none [] (.b r_4) [] (cc hc_4) <| Rc 1 [vb r_4] <| Rk <| Runs.ret <| kS_ret ?_
  cases h
  exact Fq
 | false =>
  replace h := ite_f hb_1 h
  refine Rc 5 [vp [5] 0 2, vi r_1.Seg, vb (decide (r_1.Seg > 0)), vb (decide (r_1.Seg > 0)), vb (decide (r_1.Seg > 0))] ?_
  cases hb_2 : ((decide (r_1.Seg > 0)) : Bool) with
  | true =>
   replace h := ite_t hb_2 h
   refine Rc 4 [vn, vn, vn, vb true] <| Rk <| Ct <| Sq <| Ro ?_
   obtain ⟨r_5, hr_5, h⟩ := bind_s h
   have hc_5 := hansomlaw17_awake_L r_5 hr_5
   refine Rt (some 31) (.callf 6) [] none [] (.b r_5) [] (cc hc_5) <| Rc 1 [vb r_5] <| Rk <| Runs.ret <| kS_ret ?_
   cases h
   exact Fq
  | false =>
   replace h := ite_f hb_2 h
   refine Rc 4 [vp [6] 0 2, vi r_3.Seg, vb (decide (r_3.Seg > 0)), vb (decide (r_3.Seg > 0))] <| Rk ?_
   cases hb_3 : ((decide (r_3.Seg > 0)) : Bool) with
   | true =>
    replace h := ite_t hb_3 h
    refine Ct <| Sq <| Ro ?_
    obtain ⟨r_6, hr_6, h⟩ := bind_s h
    have hc_6 := hansomlaw17_awake_L r_6 hr_6
    refine Rt (some 31) (.callf 6) [] none [] (.b r_6) [] (cc hc_6) <| Rc 1 [vb r_6] <| Rk <| Runs.ret <| kS_ret ?_
    cases h
    exact Fq
   | false =>
    replace h := ite_f hb_3 h
    refine Cf <| Runs.skip <| kS_nrm <| Sq <| Ro ?_
    obtain ⟨r_7, hr_7, h⟩ := bind_s h
    have hc_7 := hansomlaw17_awake_L r_7 hr_7
    refine Rt (some 32) (.callf 6) [] none [] (.b r_7) [] (cc hc_7) <| Rc 1 [vb r_7] ?_
    cases hb_4 : (r_7 : Bool) with
    | true =>
     replace h := ite_t hb_4 h
     refine Rc 1 [⟨.d (Inst.d r_1), []⟩] ?_
     obtain ⟨r_8, hr_8, h⟩ := bind_s h
     have hc_8 := disp_Text_L r_1 r_8 hr_8
     refine Rt (some 35) (.callf 17) [] (some []) [.d (Inst.d r_1)] (.d (.str r_8)) [] (cc hc_8) <| Rc 1 [⟨.d (Inst.d r_3), []⟩] ?_
     obtain ⟨r_9, hr_9, h⟩ := bind_s h
     have hc_9 := disp_Text_L r_3 r_9 hr_9
     refine Rt (some 37) (.callf 17) [] (some []) [.d (Inst.d r_3)] (.d (.str r_9)) [] (cc hc_9) <| Rc 2 [vb (r_8 == r_9), ⟨.d (Inst.d r_1), []⟩] ?_
     obtain ⟨r_10, hr_10, h⟩ := bind_s h
     have hc_10 := hansomref17_Text_L r_1 r_10 hr_10
     refine Rt (some 40) (.callf 18) [] (some []) [.d (Inst.d r_1)] (.d (.str r_10)) [] (cc hc_10) <| Rc 1 [⟨.d (Inst.d r_3), []⟩] ?_
     obtain ⟨r_11, hr_11, h⟩ := bind_s h
     have hc_11 := hansomref17_Text_L r_3 r_11 hr_11
     refine Rt (some 42) (.callf 18) [] none [.d (Inst.d r_3)] (.d (.str r_11)) [] (cc hc_11) <| Rc 4 [vb (r_10 == r_11), vb ((r_8 == r_9) == (r_10 == r_11)), vb ((r_8 == r_9) == (r_10 == r_11)), vb ((r_8 == r_9) == (r_10 == r_11))] <| Rk <| Runs.ret ?_
     cases h
     exact Fq
    | false =>
     replace h := ite_f hb_4 h
     refine Rc 13 [vn, vn, vn, vn, vn, vn, vn, vn, vn, vn, vn, vb false, vb false] <| Rk <| Runs.ret ?_
     cases h
     exact Fq
theorem hansomlaw17_DispOwn_L (x_ : Inst) (y_ : Inst) (r : Bool) (h : hansomlaw17_DispOwn x_ y_ = some r) : L 4 [.d (Inst.d x_), .d (Inst.d y_)] = some (.b r, [.d (Inst.d x_), .d (Inst.d y_)]) := by
 obtain ⟨p, ⟨hne, hf⟩, hr⟩ := hansomlaw17_DispOwn_ok x_ y_ r h
 obtain ⟨k, hk⟩ := run_of (F := F4) (args := [.d (Inst.d x_), .d (Inst.d y_)]) (ap := [.d (Inst.d x_), .d (Inst.d y_)]) (bx0 := updW (fun _ => none) []) rfl rfl (by kernel_rfl) ⟨p, ⟨hne, hf⟩, hr⟩
 exact lim_run (k := k) rfl hk
end Go.Es.Dso
