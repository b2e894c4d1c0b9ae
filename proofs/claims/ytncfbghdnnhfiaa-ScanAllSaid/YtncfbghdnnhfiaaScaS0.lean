/- The interpreter answers as plain Lean does: part 1. No condition. -/
import Derived.Test.YtncfbghdnnhfiaaScaF
import Derived.Test.YtncfbghdnnhfiaaScaP
import Derived.KernelRfl
set_option linter.unusedVariables false
set_option linter.unusedSimpArgs false
set_option maxRecDepth 100000
set_option maxHeartbeats 4000000
namespace Go.Es.Sca
def scan_source_next_Q (s_ : Source) (r : (Int × Source)) (p : Out × St) : Prop := (∀ i, p.1 ≠ .exit i) ∧ finF F74 [.ptr [0] 0 0] p.2 = some (.y r.1, [.ptr [.d (.sl (mY r.2.b)), .i r.2.at_]])
theorem scan_source_next_ok (s_ : Source) (r : (Int × Source)) (h : scan_source_next s_ = some r) : Runs L0 F74.body ⟨tmOf [.ptr [0] 0 0] 0, updW (fun _ => none) [([0], some (.cells [.d (.sl (mY s_.b)), .i s_.at_] 0))]⟩ (scan_source_next_Q s_ r) := by
 unfold scan_source_next at h
 refine Sq <| Ro <| Rc 1 [vy 0] <| Rk <| Sq <| Sq <| Ro <| Rc 8 [vp [0] 0 0, vp [0] 0 0, vp [0] 0 1, vi s_.at_, vp [0] 0 0, vp [0] 0 0, vp [0] 0 0, ⟨.d (.sl (mY s_.b)), []⟩] <| Rt (some 12) .lenL [] none [.d (.sl (mY s_.b))] (.i (s_.b.length : Int)) [] (cut_len _) <| Rc 1 [vb (decide (s_.at_ ≥ (s_.b.length : Int)))] <| Rk ?_
 cases hb_1 : ((decide (s_.at_ ≥ (s_.b.length : Int))) : Bool) with
 | true =>
  replace h := ite_t hb_1 h
  refine Ct ?_
  cases h
 | false =>
  replace h := ite_f hb_1 h
  refine Cf <| Runs.skip <| kS_nrm <| Sq <| Ro <| Rc 8 [vp [0] 0 0, vp [0] 0 0, vp [0] 0 0, ⟨.d (.sl (mY s_.b)), []⟩, vp [0] 0 0, vp [0] 0 0, vp [0] 0 1, vi s_.at_] ?_
  obtain ⟨z_1, hz_1, h⟩ := bind_s h
  refine Rt (some 23) (.iaddrS 1) [] none [.d (.sl (mY s_.b)), .i s_.at_] (.elt (.int .u8 z_1) 0) [] (cut_at hz_1 (fun _ => rfl)) <| Rc 2 [vy z_1, vy z_1] <| Rk <| Sq <| Ro <| Rc 8 [vp [0] 0 0, vp [0] 0 0, vp [0] 0 1, vi s_.at_, vi (IntKind.wrap .i64 (s_.at_ + 1)), vp [0] 0 0, vp [0] 0 1, ⟨.tup [], [([0], some (.cells [.d (.sl (mY s_.b)), .i (IntKind.wrap .i64 (s_.at_ + 1))] 0))]⟩] <| Rk <| Sq <| Ro <| Rc 2 [vy z_1, vy z_1] <| Rk <| Runs.ret ?_
  cases h
  exact Fq
theorem scan_source_next_L (s_ : Source) (r : (Int × Source)) (h : scan_source_next s_ = some r) : L0 74 [.ptr [.d (.sl (mY s_.b)), .i s_.at_]] = some (.y r.1, [.ptr [.d (.sl (mY r.2.b)), .i r.2.at_]]) := by
 obtain ⟨p, ⟨hne, hf⟩, hr⟩ := scan_source_next_ok s_ r h
 obtain ⟨k, hk⟩ := run_of (F := F74) (args := [.ptr [.d (.sl (mY s_.b)), .i s_.at_]]) (ap := [.ptr [0] 0 0]) (bx0 := updW (fun _ => none) [([0], some (.cells [.d (.sl (mY s_.b)), .i s_.at_] 0))]) rfl rfl (by kernel_rfl) ⟨p, ⟨hne, hf⟩, hr⟩
 exact lim_run (k := k) rfl hk
def isa_Prefix_Q (b_ : Int) (r : Bool) (p : Out × St) : Prop := (∀ i, p.1 ≠ .exit i) ∧ finF F20 [.y b_] p.2 = some (.b r, [.y b_])
theorem isa_Prefix_ok (b_ : Int) (r : Bool) (h : isa_Prefix b_ = some r) : Runs L0 F20.body ⟨tmOf [.y b_] 0, updW (fun _ => none) []⟩ (isa_Prefix_Q b_ r) := by
 unfold isa_Prefix at h
 refine Sq <| Ro <| Rc 1 [vb false] <| Rk <| Sq <| Sq <| Ro <| Rc 1 [vy b_] <| Rk <| Runs.block <| Sq <| Sq <| Ro <| Rc 2 [vb (b_ == 38), vb (b_ == 38)] <| Rk ?_
 cases hb_1 : ((b_ == 38) : Bool) with
 | true =>
  replace h := ite_t hb_1 h
  refine Ct <| Runs.skip <| kS_nrm <| Ct <| Sq <| Ro <| Rc 1 [vb true] <| Rk <| Runs.ret <| kB_ret <| kS_ret ?_
  cases h
  exact Fq
 | false =>
  replace h := ite_f hb_1 h
  refine Cf <| Sq <| Ro <| Rc 2 [vb (b_ == 46), vb (b_ == 46)] <| Rk ?_
  cases hb_2 : ((b_ == 46) : Bool) with
  | true =>
   replace h := ite_t hb_2 h
   refine Ct <| Runs.skip <| kS_nrm <| Ct <| Sq <| Ro <| Rc 1 [vb true] <| Rk <| Runs.ret <| kB_ret <| kS_ret ?_
   cases h
   exact Fq
  | false =>
   replace h := ite_f hb_2 h
   refine Cf <| Sq <| Ro <| Rc 2 [vb (b_ == 54), vb (b_ == 54)] <| Rk ?_
   cases hb_3 : ((b_ == 54) : Bool) with
   | true =>
    replace h := ite_t hb_3 h
    refine Ct <| Runs.skip <| kS_nrm <| Ct <| Sq <| Ro <| Rc 1 [vb true] <| Rk <| Runs.ret <| kB_ret <| kS_ret ?_
    cases h
    exact Fq
   | false =>
    replace h := ite_f hb_3 h
    refine Cf <| Sq <| Ro <| Rc 2 [vb (b_ == 62), vb (b_ == 62)] <| Rk ?_
    cases hb_4 : ((b_ == 62) : Bool) with
    | true =>
     replace h := ite_t hb_4 h
     refine Ct <| Runs.skip <| kS_nrm <| Ct <| Sq <| Ro <| Rc 1 [vb true] <| Rk <| Runs.ret <| kB_ret <| kS_ret ?_
     cases h
     exact Fq
    | false =>
     replace h := ite_f hb_4 h
     refine Cf <| Sq <| Ro <| Rc 2 [vb (b_ == 240), vb (b_ == 240)] <| Rk ?_
     cases hb_5 : ((b_ == 240) : Bool) with
     | true =>
      replace h := ite_t hb_5 h
      refine Ct <| Runs.skip <| kS_nrm <| Ct <| Sq <| Ro <| Rc 1 [vb true] <| Rk <| Runs.ret <| kB_ret <| kS_ret ?_
      cases h
      exact Fq
     | false =>
      replace h := ite_f hb_5 h
      refine Cf <| Sq <| Ro <| Rc 2 [vb (b_ == 242), vb (b_ == 242)] <| Rk ?_
      cases hb_6 : ((b_ == 242) : Bool) with
      | true =>
       replace h := ite_t hb_6 h
       refine Ct <| Runs.skip <| kS_nrm <| Ct <| Sq <| Ro <| Rc 1 [vb true] <| Rk <| Runs.ret <| kB_ret <| kS_ret ?_
       cases h
       exact Fq
      | false =>
       replace h := ite_f hb_6 h
       refine Cf <| Ro <| Rc 2 [vb (b_ == 243), vb (b_ == 243)] <| Rk ?_
       cases hb_7 : ((b_ == 243) : Bool) with
       | true =>
        replace h := ite_t hb_7 h
        refine Ct <| Sq <| Ro <| Rc 1 [vb true] <| Rk <| Runs.ret <| kB_ret <| kS_ret ?_
        cases h
        exact Fq
       | false =>
        replace h := ite_f hb_7 h
        refine Cf <| Runs.skip <| kB_nrm <| kS_nrm <| Sq <| Ro <| Rc 1 [vb false] <| Rk <| Runs.ret ?_
        cases h
        exact Fq
theorem isa_Prefix_L (b_ : Int) (r : Bool) (h : isa_Prefix b_ = some r) : L0 20 [.y b_] = some (.b r, [.y b_]) := by
 obtain ⟨p, ⟨hne, hf⟩, hr⟩ := isa_Prefix_ok b_ r h
 obtain ⟨k, hk⟩ := run_of (F := F20) (args := [.y b_]) (ap := [.y b_]) (bx0 := updW (fun _ => none) []) rfl rfl (by kernel_rfl) ⟨p, ⟨hne, hf⟩, hr⟩
 exact lim_run (k := k) rfl hk
def scan_source_ahead_h3 (s0 : Source) (i1 : Inst) : St := ⟨tab [(0, .ptr [0] 0 0), (1, .ptr [1] 0 0)], tabB [([0], some (.cells [.d (.sl (mY s0.b)), .i s0.at_] 0)), ([1], some (.cells [.b i1.Lock, .i i1.Rep, .i i1.Seg, .y i1.Op, .i i1.Mod, .i i1.Reg, .i i1.RM, .w i1.Disp, .w i1.Imm, .w i1.Sel] 0))]⟩
def scan_source_ahead_h16 (s0 : Source) (i1 : Inst) (c5 : Int) (t14 : Bool) : St := ⟨tab [(0, .ptr [0] 0 0), (1, .ptr [1] 0 0), (5, .y c5), (14, .b t14)], tabB [([0], some (.cells [.d (.sl (mY s0.b)), .i s0.at_] 0)), ([1], some (.cells [.b i1.Lock, .i i1.Rep, .i i1.Seg, .y i1.Op, .i i1.Mod, .i i1.Reg, .i i1.RM, .w i1.Disp, .w i1.Imm, .w i1.Sel] 0))]⟩
def scan_source_ahead_h20 (s0 : Source) (i1 : Inst) (c5 : Int) (t27 : Bool) : St := ⟨tab [(0, .ptr [0] 0 0), (1, .ptr [1] 0 0), (5, .y c5), (27, .b t27)], tabB [([0], some (.cells [.d (.sl (mY s0.b)), .i s0.at_] 0)), ([1], some (.cells [.b i1.Lock, .i i1.Rep, .i i1.Seg, .y i1.Op, .i i1.Mod, .i i1.Reg, .i i1.RM, .w i1.Disp, .w i1.Imm, .w i1.Sel] 0))]⟩
def scan_source_ahead_Q (s_ : Source) (i_ : Inst) (r : (Int × Source × Inst)) (p : Out × St) : Prop := (∀ i, p.1 ≠ .exit i) ∧ finF F69 [.ptr [0] 0 0, .ptr [1] 0 0] p.2 = some (.y r.1, [.ptr [.d (.sl (mY r.2.1.b)), .i r.2.1.at_], .ptr [.b r.2.2.Lock, .i r.2.2.Rep, .i r.2.2.Seg, .y r.2.2.Op, .i r.2.2.Mod, .i r.2.2.Reg, .i r.2.2.RM, .w r.2.2.Disp, .w r.2.2.Imm, .w r.2.2.Sel]])
def scan_source_ahead_P3 (s_ : Source) (i_ : Inst)  (e : (Int × Source × Inst)) (p : Out × St) : Prop := p.1 = .ret ∧ finF F69 [.ptr [0] 0 0, .ptr [1] 0 0] p.2 = some (.y e.1, [.ptr [.d (.sl (mY e.2.1.b)), .i e.2.1.at_], .ptr [.b e.2.2.Lock, .i e.2.2.Rep, .i e.2.2.Seg, .y e.2.2.Op, .i e.2.2.Mod, .i e.2.2.Reg, .i e.2.2.RM, .w e.2.2.Disp, .w e.2.2.Imm, .w e.2.2.Sel]])
theorem scan_source_ahead_j20_ok (s_ : Source) (i_ : Inst) (s0 : Source) (i1 : Inst) (c5 : Int) (t27 : Bool) (r : (Lp (Source × Inst) (Int × Source × Inst))) (h : scan_source_ahead_j20 s0 i1 c5 t27 = some r) : Runs L0 F69b20 (scan_source_ahead_h20 s0 i1 c5 t27) (kB 2 (kB 1 (LQ [] [0, 1] [[0], [1]] (fun (x : (Source × Inst)) (g : Unit) => scan_source_ahead_h3 x.1 x.2) (scan_source_ahead_P3 s_ i_) r))) := by
 unfold scan_source_ahead_j20 at h
 cases hb_5 : (t27 : Bool) with
 | true =>
  replace h := ite_t hb_5 h
  refine Ct <| Ro <| Rc 7 [vp [1] 0 0, vy c5, vy (IntKind.wrap .u8 (c5 - 241)), vi (IntKind.wrap .i64 (IntKind.wrap .u8 (c5 - 241))), vp [1] 0 0, vp [1] 0 1, ⟨.tup [], [([1], some (.cells [.b i1.Lock, .i (IntKind.wrap .i64 (IntKind.wrap .u8 (c5 - 241))), .i i1.Seg, .y i1.Op, .i i1.Mod, .i i1.Reg, .i i1.RM, .w i1.Disp, .w i1.Imm, .w i1.Sel] 0))]⟩] <| Rd <| kB_nrm <| kB_nrm ?_
  obtain rfl := sj h
  exact ⟨rfl, (), Cz⟩
 | false =>
  replace h := ite_f hb_5 h
  refine Cf <| Sq <| Ro <| Rc 3 [vy c5, vb (decide (c5 < 240)), vb (decide (c5 < 240))] ?_
  cases hb_6 : ((decide (c5 < 240)) : Bool) with
  | true =>
   replace h := ite_t hb_6 h
   refine Rc 7 [vp [1] 0 0, vp [1] 0 0, vp [1] 0 2, vi i1.Seg, vb (i1.Seg == 0), vb (i1.Seg == 0), vb (i1.Seg == 0)] <| Rk ?_
   cases hb_7 : ((i1.Seg == 0) : Bool) with
   | true =>
    replace h := ite_t hb_7 h
    refine Ct <| Ro <| Rc 9 [vp [1] 0 0, vy c5, vy (IntKind.wrap .u8 (c5 - 38)), vi (IntKind.wrap .i64 (IntKind.wrap .u8 (c5 - 38))), vi (shrI .i64 (IntKind.wrap .i64 (IntKind.wrap .u8 (c5 - 38))) 3), vi (IntKind.wrap .i64 ((shrI .i64 (IntKind.wrap .i64 (IntKind.wrap .u8 (c5 - 38))) 3) + 1)), vp [1] 0 0, vp [1] 0 2, ⟨.tup [], [([1], some (.cells [.b i1.Lock, .i i1.Rep, .i (IntKind.wrap .i64 ((shrI .i64 (IntKind.wrap .i64 (IntKind.wrap .u8 (c5 - 38))) 3) + 1)), .y i1.Op, .i i1.Mod, .i i1.Reg, .i i1.RM, .w i1.Disp, .w i1.Imm, .w i1.Sel] 0))]⟩] <| Rd <| kB_nrm <| kB_nrm ?_
    obtain rfl := sj h
    exact ⟨rfl, (), Cz⟩
   | false =>
    replace h := ite_f hb_7 h
    refine Cf ?_
    cases h
  | false =>
   replace h := ite_f hb_6 h
   refine Rc 7 [vn, vn, vn, vn, vn, vb false, vb false] <| Rk <| Cf ?_
   cases h
theorem scan_source_ahead_j16_ok (s_ : Source) (i_ : Inst) (s0 : Source) (i1 : Inst) (c5 : Int) (t14 : Bool) (r : (Lp (Source × Inst) (Int × Source × Inst))) (h : scan_source_ahead_j16 s0 i1 c5 t14 = some r) : Runs L0 F69b16 (scan_source_ahead_h16 s0 i1 c5 t14) (kB 2 (kB 1 (LQ [] [0, 1] [[0], [1]] (fun (x : (Source × Inst)) (g : Unit) => scan_source_ahead_h3 x.1 x.2) (scan_source_ahead_P3 s_ i_) r))) := by
 unfold scan_source_ahead_j16 at h
 cases hb_3 : (t14 : Bool) with
 | true =>
  replace h := ite_t hb_3 h
  refine Ct <| Ro <| Rc 4 [vp [1] 0 0, vp [1] 0 0, vp [1] 0 0, ⟨.tup [], [([1], some (.cells [.b true, .i i1.Rep, .i i1.Seg, .y i1.Op, .i i1.Mod, .i i1.Reg, .i i1.RM, .w i1.Disp, .w i1.Imm, .w i1.Sel] 0))]⟩] <| Rd <| kB_nrm <| kB_nrm ?_
  obtain rfl := sj h
  exact ⟨rfl, (), Cz⟩
 | false =>
  replace h := ite_f hb_3 h
  refine Cf <| Sq <| Ro <| Rc 3 [vy c5, vb (decide (c5 ≥ 242)), vb (decide (c5 ≥ 242))] ?_
  cases hb_4 : ((decide (c5 ≥ 242)) : Bool) with
  | true =>
   replace h := ite_t hb_4 h
   refine Rc 7 [vp [1] 0 0, vp [1] 0 0, vp [1] 0 1, vi i1.Rep, vb (i1.Rep == 0), vb (i1.Rep == 0), vb (i1.Rep == 0)] <| Rk <| Runs.canon (scan_source_ahead_h20 s0 i1 c5 (i1.Rep == 0)) Cz ?_
   exact scan_source_ahead_j20_ok s_ i_ s0 i1 c5 (i1.Rep == 0) r h
  | false =>
   replace h := ite_f hb_4 h
   refine Rc 7 [vn, vn, vn, vn, vn, vb false, vb false] <| Rk <| Runs.canon (scan_source_ahead_h20 s0 i1 c5 false) Cz ?_
   exact scan_source_ahead_j20_ok s_ i_ s0 i1 c5 false r h
theorem scan_source_ahead_l3_ok (s_ : Source) (i_ : Inst) (s0 : Source) (i1 : Inst) (r : (Lp (Source × Inst) (Int × Source × Inst))) (h : scan_source_ahead_l3 s0 i1 = some r) : Runs L0 F69l3 (scan_source_ahead_h3 s0 i1) (LQ [] [0, 1] [[0], [1]] (fun (x : (Source × Inst)) (g : Unit) => scan_source_ahead_h3 x.1 x.2) (scan_source_ahead_P3 s_ i_) r) := by
 unfold scan_source_ahead_l3 at h
 refine Runs.block <| Sq <| Ro <| Rc 1 [vp [0] 0 0] ?_
 obtain ⟨r_1, hr_1, h⟩ := bind_s h
 have hc_1 := scan_source_next_L s0 r_1 hr_1
 refine Rt (some 7) (.callf 74) [] none [.ptr [0] 0 0] (.y r_1.1) [([0], some (.cells [.d (.sl (mY r_1.2.b)), .i r_1.2.at_] 0))] (cut_call (call_of (ws := []) (us := [([0], some (.cells [.d (.sl (mY r_1.2.b)), .i r_1.2.at_] 0))]) (by kernel_rfl) (by kernel_rfl) hc_1 (by kernel_rfl) (by kernel_rfl))) <| Rc 1 [vy r_1.1] <| Rk <| Runs.block <| Sq <| Ro <| Rc 1 [vy r_1.1] ?_
 obtain ⟨r_2, hr_2, h⟩ := bind_s h
 have hc_2 := isa_Prefix_L r_1.1 r_2 hr_2
 refine Rt (some 11) (.callf 20) [] none [.y r_1.1] (.b r_2) [] (cc hc_2) <| Rc 2 [vb (!r_2), vb (!r_2)] <| Rk ?_
 cases hb_1 : ((!r_2) : Bool) with
 | true =>
  replace h := ite_t hb_1 h
  refine Ct <| Sq <| Ro <| Rc 2 [vy r_1.1, vy r_1.1] <| Rk <| Runs.ret <| kB_ret <| kB_ret ?_
  obtain rfl := sj h
  exact ⟨nofun, rfl, (by kernel_rfl)⟩
 | false =>
  replace h := ite_f hb_1 h
  refine Cf <| Sq <| Ro <| Rc 3 [vy r_1.1, vb (r_1.1 == 240), vb (r_1.1 == 240)] ?_
  cases hb_2 : ((r_1.1 == 240) : Bool) with
  | true =>
   replace h := ite_t hb_2 h
   refine Rc 7 [vp [1] 0 0, vp [1] 0 0, vp [1] 0 0, vb i1.Lock, vb (!i1.Lock), vb (!i1.Lock), vb (!i1.Lock)] <| Rk <| Runs.canon (scan_source_ahead_h16 r_1.2 i1 r_1.1 (!i1.Lock)) Cz ?_
   exact scan_source_ahead_j16_ok s_ i_ r_1.2 i1 r_1.1 (!i1.Lock) r h
  | false =>
   replace h := ite_f hb_2 h
   refine Rc 7 [vn, vn, vn, vn, vn, vb false, vb false] <| Rk <| Runs.canon (scan_source_ahead_h16 r_1.2 i1 r_1.1 false) Cz ?_
   exact scan_source_ahead_j16_ok s_ i_ r_1.2 i1 r_1.1 false r h
theorem scan_source_ahead_ok (s_ : Source) (i_ : Inst) (r : (Int × Source × Inst)) (h : scan_source_ahead s_ i_ = some r) : Runs L0 F69.body ⟨tmOf [.ptr [0] 0 0, .ptr [1] 0 0] 0, updW (fun _ => none) [([0], some (.cells [.d (.sl (mY s_.b)), .i s_.at_] 0)), ([1], some (.cells [.b i_.Lock, .i i_.Rep, .i i_.Seg, .y i_.Op, .i i_.Mod, .i i_.Reg, .i i_.RM, .w i_.Disp, .w i_.Imm, .w i_.Sel] 0))]⟩ (scan_source_ahead_Q s_ i_ r) := by
 unfold scan_source_ahead at h
 refine Sq <| Sq <| Ro <| Rc 1 [vy 0] <| Rk <| Runs.block ?_
 obtain ⟨e_1, he_1, h⟩ := bind_s h
 refine Runs.loop (fun x : (Source × Inst) => scan_source_ahead_l3 x.1 x.2) (fun (x : (Source × Inst)) (g : Unit) => scan_source_ahead_h3 x.1 x.2) (scan_source_ahead_P3 s_ i_) (fun x g r hr => scan_source_ahead_l3_ok s_ i_ x.1 x.2  r hr) () he_1 Cz ?_
 rintro ⟨o, s⟩ hp
 obtain ⟨ho, hf⟩ := hp
 have ho' : o = .ret := ho
 subst ho'
 refine kB_ret <| kS_ret ?_
 obtain rfl := sj h
 exact ⟨Out.ret_ne, hf⟩
theorem scan_source_ahead_L (s_ : Source) (i_ : Inst) (r : (Int × Source × Inst)) (h : scan_source_ahead s_ i_ = some r) : L0 69 [.ptr [.d (.sl (mY s_.b)), .i s_.at_], .ptr [.b i_.Lock, .i i_.Rep, .i i_.Seg, .y i_.Op, .i i_.Mod, .i i_.Reg, .i i_.RM, .w i_.Disp, .w i_.Imm, .w i_.Sel]] = some (.y r.1, [.ptr [.d (.sl (mY r.2.1.b)), .i r.2.1.at_], .ptr [.b r.2.2.Lock, .i r.2.2.Rep, .i r.2.2.Seg, .y r.2.2.Op, .i r.2.2.Mod, .i r.2.2.Reg, .i r.2.2.RM, .w r.2.2.Disp, .w r.2.2.Imm, .w r.2.2.Sel]]) := by
 obtain ⟨p, ⟨hne, hf⟩, hr⟩ := scan_source_ahead_ok s_ i_ r h
 obtain ⟨k, hk⟩ := run_of (F := F69) (args := [.ptr [.d (.sl (mY s_.b)), .i s_.at_], .ptr [.b i_.Lock, .i i_.Rep, .i i_.Seg, .y i_.Op, .i i_.Mod, .i i_.Reg, .i i_.RM, .w i_.Disp, .w i_.Imm, .w i_.Sel]]) (ap := [.ptr [0] 0 0, .ptr [1] 0 0]) (bx0 := updW (fun _ => none) [([0], some (.cells [.d (.sl (mY s_.b)), .i s_.at_] 0)), ([1], some (.cells [.b i_.Lock, .i i_.Rep, .i i_.Seg, .y i_.Op, .i i_.Mod, .i i_.Reg, .i i_.RM, .w i_.Disp, .w i_.Imm, .w i_.Sel] 0))]) rfl rfl (by kernel_rfl) ⟨p, ⟨hne, hf⟩, hr⟩
 exact lim_run (k := k) rfl hk
def isa_mod_Q (name_ : Int) (a_ : Int) (b_ : Int) (r : (Row × Bool)) (p : Out × St) : Prop := (∀ i, p.1 ≠ .exit i) ∧ finF F67 [.i name_, .i a_, .i b_] p.2 = some (.tup [.d (Row.d r.1), .b r.2], [.i name_, .i a_, .i b_])
theorem isa_mod_ok (name_ : Int) (a_ : Int) (b_ : Int) (r : (Row × Bool)) (h : isa_mod name_ a_ b_ = some r) : Runs L0 F67.body ⟨tmOf [.i name_, .i a_, .i b_] 0, updW (fun _ => none) []⟩ (isa_mod_Q name_ a_ b_ r) := by
 unfold isa_mod at h
 refine Sq <| Ro <| Rc 2 [⟨.ptr [6] 0 0, [([6], some (.cells [.i 0, .i 0, .i 0, .b false] 0))]⟩, vb false] <| Rk <| Sq <| Ro <| Rc 6 [vi name_, vi a_, vi b_, ⟨.d (.agg [.int .i64 name_, .int .i64 a_, .int .i64 b_, .bool true]), []⟩, ⟨.tup [], [([6], some (.cells [.i name_, .i a_, .i b_, .b true] 0))]⟩, vb true] <| Rk <| Runs.ret ?_
 cases h
 exact Fq
theorem isa_mod_L (name_ : Int) (a_ : Int) (b_ : Int) (r : (Row × Bool)) (h : isa_mod name_ a_ b_ = some r) : L0 67 [.i name_, .i a_, .i b_] = some (.tup [.d (Row.d r.1), .b r.2], [.i name_, .i a_, .i b_]) := by
 obtain ⟨p, ⟨hne, hf⟩, hr⟩ := isa_mod_ok name_ a_ b_ r h
 obtain ⟨k, hk⟩ := run_of (F := F67) (args := [.i name_, .i a_, .i b_]) (ap := [.i name_, .i a_, .i b_]) (bx0 := updW (fun _ => none) []) rfl rfl (by kernel_rfl) ⟨p, ⟨hne, hf⟩, hr⟩
 exact lim_run (k := k) rfl hk
def isa_row_Q (name_ : Int) (a_ : Int) (b_ : Int) (r : (Row × Bool)) (p : Out × St) : Prop := (∀ i, p.1 ≠ .exit i) ∧ finF F38 [.i name_, .i a_, .i b_] p.2 = some (.tup [.d (Row.d r.1), .b r.2], [.i name_, .i a_, .i b_])
theorem isa_row_ok (name_ : Int) (a_ : Int) (b_ : Int) (r : (Row × Bool)) (h : isa_row name_ a_ b_ = some r) : Runs L0 F38.body ⟨tmOf [.i name_, .i a_, .i b_] 0, updW (fun _ => none) []⟩ (isa_row_Q name_ a_ b_ r) := by
 unfold isa_row at h
 refine Sq <| Ro <| Rc 2 [⟨.ptr [6] 0 0, [([6], some (.cells [.i 0, .i 0, .i 0, .b false] 0))]⟩, vb false] <| Rk <| Sq <| Ro <| Rc 6 [vi name_, vi a_, vi b_, ⟨.d (.agg [.int .i64 name_, .int .i64 a_, .int .i64 b_, .bool false]), []⟩, ⟨.tup [], [([6], some (.cells [.i name_, .i a_, .i b_, .b false] 0))]⟩, vb true] <| Rk <| Runs.ret ?_
 cases h
 exact Fq
theorem isa_row_L (name_ : Int) (a_ : Int) (b_ : Int) (r : (Row × Bool)) (h : isa_row name_ a_ b_ = some r) : L0 38 [.i name_, .i a_, .i b_] = some (.tup [.d (Row.d r.1), .b r.2], [.i name_, .i a_, .i b_]) := by
 obtain ⟨p, ⟨hne, hf⟩, hr⟩ := isa_row_ok name_ a_ b_ r h
 obtain ⟨k, hk⟩ := run_of (F := F38) (args := [.i name_, .i a_, .i b_]) (ap := [.i name_, .i a_, .i b_]) (bx0 := updW (fun _ => none) []) rfl rfl (by kernel_rfl) ⟨p, ⟨hne, hf⟩, hr⟩
 exact lim_run (k := k) rfl hk
def isa_bad_Q  (r : (Row × Bool)) (p : Out × St) : Prop := (∀ i, p.1 ≠ .exit i) ∧ finF F39 [] p.2 = some (.tup [.d (Row.d r.1), .b r.2], [])
theorem isa_bad_ok  (r : (Row × Bool)) (h : isa_bad = some r) : Runs L0 F39.body ⟨tmOf [] 0, updW (fun _ => none) []⟩ (isa_bad_Q  r) := by
 unfold isa_bad at h
 refine Sq <| Ro <| Rc 2 [⟨.ptr [0] 0 0, [([0], some (.cells [.i 0, .i 0, .i 0, .b false] 0))]⟩, vb false] <| Rk <| Sq <| Ro <| Rc 3 [⟨.d (.agg [.int .i64 0, .int .i64 0, .int .i64 0, .bool false]), []⟩, ⟨.tup [], [([0], some (.cells [.i 0, .i 0, .i 0, .b false] 0))]⟩, vb false] <| Rk <| Runs.ret ?_
 cases h
 exact Fq
theorem isa_bad_L  (r : (Row × Bool)) (h : isa_bad = some r) : L0 39 [] = some (.tup [.d (Row.d r.1), .b r.2], []) := by
 obtain ⟨p, ⟨hne, hf⟩, hr⟩ := isa_bad_ok  r h
 obtain ⟨k, hk⟩ := run_of (F := F39) (args := []) (ap := []) (bx0 := updW (fun _ => none) []) rfl rfl (by kernel_rfl) ⟨p, ⟨hne, hf⟩, hr⟩
 exact lim_run (k := k) rfl hk
def isa_sums_h63 (b_2 : Row) (t47 : Int) (t48 : Bool) : St := ⟨tab [(2, .ptr [2] 0 0), (47, .y t47), (48, .b t48)], tabB [([2], some (.cells [.i b_2.Name, .i b_2.A, .i b_2.B, .b b_2.Mod] 0))]⟩
def isa_sums_h77 (b_2 : Row) (t47 : Int) (t56 : Bool) : St := ⟨tab [(2, .ptr [2] 0 0), (47, .y t47), (56, .b t56)], tabB [([2], some (.cells [.i b_2.Name, .i b_2.A, .i b_2.B, .b b_2.Mod] 0))]⟩
def isa_sums_Q (op_ : Int) (r : (Row × Bool)) (p : Out × St) : Prop := (∀ i, p.1 ≠ .exit i) ∧ finF F37 [.y op_] p.2 = some (.tup [.d (Row.d r.1), .b r.2], [.y op_])
theorem isa_sums_j77_ok (op_ : Int) (b_2 : Row) (t47 : Int) (t56 : Bool) (r : (Row × Bool)) (h : isa_sums_j77 b_2 t47 t56 = some r) : Runs L0 F37b77 (isa_sums_h77 b_2 t47 t56) (kB 1 (kS L0 F37c106 (isa_sums_Q op_ r))) := by
 unfold isa_sums_j77 at h
 cases hb_10 : (t56 : Bool) with
 | true =>
  replace h := ite_t hb_10 h
  refine Ct <| Sq <| Ro ?_
  obtain ⟨r_8, hr_8, h⟩ := bind_s h
  have hc_8 := isa_row_L 10 23 0 r_8 hr_8
  refine Rt (some 60) (.callf 38) [] none [.i 10, .i 23, .i 0] (.tup [.d (Row.d r_8.1), .b r_8.2]) [] (cc hc_8) <| Rc 4 [⟨.d (Row.d r_8.1), []⟩, vb r_8.2, ⟨.tup [], [([2], some (.cells [.i r_8.1.Name, .i r_8.1.A, .i r_8.1.B, .b r_8.1.Mod] 0))]⟩, vb r_8.2] <| Rk <| Runs.ret <| kB_ret <| kS_ret ?_
  cases h
  exact Fq
 | false =>
  replace h := ite_f hb_10 h
  refine Cf <| Sq <| Ro <| Rc 2 [vb (t47 == 39), vb (t47 == 39)] <| Rk ?_
  cases hb_11 : ((t47 == 39) : Bool) with
  | true =>
   replace h := ite_t hb_11 h
   refine Ct <| Sq <| Ro ?_
   obtain ⟨r_9, hr_9, h⟩ := bind_s h
   have hc_9 := isa_row_L 11 0 0 r_9 hr_9
   refine Rt (some 65) (.callf 38) [] none [.i 11, .i 0, .i 0] (.tup [.d (Row.d r_9.1), .b r_9.2]) [] (cc hc_9) <| Rc 4 [⟨.d (Row.d r_9.1), []⟩, vb r_9.2, ⟨.tup [], [([2], some (.cells [.i r_9.1.Name, .i r_9.1.A, .i r_9.1.B, .b r_9.1.Mod] 0))]⟩, vb r_9.2] <| Rk <| Runs.ret <| kB_ret <| kS_ret ?_
   cases h
   exact Fq
  | false =>
   replace h := ite_f hb_11 h
   refine Cf <| Sq <| Ro <| Rc 2 [vb (t47 == 47), vb (t47 == 47)] <| Rk ?_
   cases hb_12 : ((t47 == 47) : Bool) with
   | true =>
    replace h := ite_t hb_12 h
    refine Ct <| Sq <| Ro ?_
    obtain ⟨r_10, hr_10, h⟩ := bind_s h
    have hc_10 := isa_row_L 12 0 0 r_10 hr_10
    refine Rt (some 70) (.callf 38) [] none [.i 12, .i 0, .i 0] (.tup [.d (Row.d r_10.1), .b r_10.2]) [] (cc hc_10) <| Rc 4 [⟨.d (Row.d r_10.1), []⟩, vb r_10.2, ⟨.tup [], [([2], some (.cells [.i r_10.1.Name, .i r_10.1.A, .i r_10.1.B, .b r_10.1.Mod] 0))]⟩, vb r_10.2] <| Rk <| Runs.ret <| kB_ret <| kS_ret ?_
    cases h
    exact Fq
   | false =>
    replace h := ite_f hb_12 h
    refine Cf <| Sq <| Ro <| Rc 2 [vb (t47 == 55), vb (t47 == 55)] <| Rk ?_
    cases hb_13 : ((t47 == 55) : Bool) with
    | true =>
     replace h := ite_t hb_13 h
     refine Ct <| Sq <| Ro ?_
     obtain ⟨r_11, hr_11, h⟩ := bind_s h
     have hc_11 := isa_row_L 13 0 0 r_11 hr_11
     refine Rt (some 75) (.callf 38) [] none [.i 13, .i 0, .i 0] (.tup [.d (Row.d r_11.1), .b r_11.2]) [] (cc hc_11) <| Rc 4 [⟨.d (Row.d r_11.1), []⟩, vb r_11.2, ⟨.tup [], [([2], some (.cells [.i r_11.1.Name, .i r_11.1.A, .i r_11.1.B, .b r_11.1.Mod] 0))]⟩, vb r_11.2] <| Rk <| Runs.ret <| kB_ret <| kS_ret ?_
     cases h
     exact Fq
    | false =>
     replace h := ite_f hb_13 h
     refine Cf <| Sq <| Ro <| Rc 2 [vb (t47 == 63), vb (t47 == 63)] <| Rk ?_
     cases hb_14 : ((t47 == 63) : Bool) with
     | true =>
      replace h := ite_t hb_14 h
      refine Ct <| Sq <| Ro ?_
      obtain ⟨r_12, hr_12, h⟩ := bind_s h
      have hc_12 := isa_row_L 14 0 0 r_12 hr_12
      refine Rt (some 80) (.callf 38) [] none [.i 14, .i 0, .i 0] (.tup [.d (Row.d r_12.1), .b r_12.2]) [] (cc hc_12) <| Rc 4 [⟨.d (Row.d r_12.1), []⟩, vb r_12.2, ⟨.tup [], [([2], some (.cells [.i r_12.1.Name, .i r_12.1.A, .i r_12.1.B, .b r_12.1.Mod] 0))]⟩, vb r_12.2] <| Rk <| Runs.ret <| kB_ret <| kS_ret ?_
      cases h
      exact Fq
     | false =>
      replace h := ite_f hb_14 h
      refine Cf <| Runs.skip <| kB_nrm <| kS_nrm <| Sq <| Ro ?_
      obtain ⟨r_13, hr_13, h⟩ := bind_s h
      have hc_13 := isa_bad_L r_13 hr_13
      refine Rt (some 83) (.callf 39) [] none [] (.tup [.d (Row.d r_13.1), .b r_13.2]) [] (cc hc_13) <| Rc 4 [⟨.d (Row.d r_13.1), []⟩, vb r_13.2, ⟨.tup [], [([2], some (.cells [.i r_13.1.Name, .i r_13.1.A, .i r_13.1.B, .b r_13.1.Mod] 0))]⟩, vb r_13.2] <| Rk <| Runs.ret ?_
      cases h
      exact Fq
theorem isa_sums_j63_ok (op_ : Int) (b_2 : Row) (t47 : Int) (t48 : Bool) (r : (Row × Bool)) (h : isa_sums_j63 b_2 t47 t48 = some r) : Runs L0 F37b63 (isa_sums_h63 b_2 t47 t48) (kB 1 (kS L0 F37c106 (isa_sums_Q op_ r))) := by
 unfold isa_sums_j63 at h
 cases hb_8 : (t48 : Bool) with
 | true =>
  replace h := ite_t hb_8 h
  refine Ct <| Sq <| Ro ?_
  obtain ⟨r_7, hr_7, h⟩ := bind_s h
  have hc_7 := isa_row_L 9 23 0 r_7 hr_7
  refine Rt (some 53) (.callf 38) [] none [.i 9, .i 23, .i 0] (.tup [.d (Row.d r_7.1), .b r_7.2]) [] (cc hc_7) <| Rc 4 [⟨.d (Row.d r_7.1), []⟩, vb r_7.2, ⟨.tup [], [([2], some (.cells [.i r_7.1.Name, .i r_7.1.A, .i r_7.1.B, .b r_7.1.Mod] 0))]⟩, vb r_7.2] <| Rk <| Runs.ret <| kB_ret <| kS_ret ?_
  cases h
  exact Fq
 | false =>
  replace h := ite_f hb_8 h
  refine Cf <| Sq <| Sq <| Ro <| Rc 2 [vb (t47 == 7), vb (t47 == 7)] <| Rk ?_
  cases hb_9 : ((t47 == 7) : Bool) with
  | true =>
   replace h := ite_t hb_9 h
   refine Ct <| Runs.skip <| kS_nrm <| Runs.canon (isa_sums_h77 b_2 t47 true) Cz ?_
   exact isa_sums_j77_ok op_ b_2 t47 true r h
  | false =>
   replace h := ite_f hb_9 h
   refine Cf <| Sq <| Ro <| Rc 2 [vb (t47 == 23), vb (t47 == 23)] <| Rk ?_
   cases hb_15 : ((t47 == 23) : Bool) with
   | true =>
    replace h := ite_t hb_15 h
    refine Ct <| Runs.skip <| kS_nrm <| Runs.canon (isa_sums_h77 b_2 t47 true) Cz ?_
    exact isa_sums_j77_ok op_ b_2 t47 true r h
   | false =>
    replace h := ite_f hb_15 h
    refine Cf <| Ro <| Rc 2 [vb (t47 == 31), vb (t47 == 31)] <| Rk <| Runs.canon (isa_sums_h77 b_2 t47 (t47 == 31)) Cz ?_
    exact isa_sums_j77_ok op_ b_2 t47 (t47 == 31) r h
theorem isa_sums_ok (op_ : Int) (r : (Row × Bool)) (h : isa_sums op_ = some r) : Runs L0 F37.body ⟨tmOf [.y op_] 0, updW (fun _ => none) []⟩ (isa_sums_Q op_ r) := by
 unfold isa_sums at h
 refine Sq <| Ro <| Rc 2 [⟨.ptr [2] 0 0, [([2], some (.cells [.i 0, .i 0, .i 0, .b false] 0))]⟩, vb false] <| Rk <| Sq <| Ro <| Rc 5 [vy op_, vy (shrI .u8 op_ 3), vi (IntKind.wrap .i64 (shrI .u8 op_ 3)), vi (IntKind.wrap .i64 (1 + (IntKind.wrap .i64 (shrI .u8 op_ 3)))), vi (IntKind.wrap .i64 (1 + (IntKind.wrap .i64 (shrI .u8 op_ 3))))] <| Rk <| Sq <| Sq <| Ro <| Rc 2 [vy op_, vy (bitsOp .and .u8 op_ 7)] <| Rk <| Runs.block <| Sq <| Ro <| Rc 2 [vb ((bitsOp .and .u8 op_ 7) == 0), vb ((bitsOp .and .u8 op_ 7) == 0)] <| Rk ?_
 cases hb_1 : (((bitsOp .and .u8 op_ 7) == 0) : Bool) with
 | true =>
  replace h := ite_t hb_1 h
  refine Ct <| Sq <| Ro <| Rc 1 [vi (IntKind.wrap .i64 (1 + (IntKind.wrap .i64 (shrI .u8 op_ 3))))] ?_
  obtain ⟨r_1, hr_1, h⟩ := bind_s h
  have hc_1 := isa_mod_L (IntKind.wrap .i64 (1 + (IntKind.wrap .i64 (shrI .u8 op_ 3)))) 1 3 r_1 hr_1
  refine Rt (some 14) (.callf 67) [] none [.i (IntKind.wrap .i64 (1 + (IntKind.wrap .i64 (shrI .u8 op_ 3)))), .i 1, .i 3] (.tup [.d (Row.d r_1.1), .b r_1.2]) [] (cc hc_1) <| Rc 4 [⟨.d (Row.d r_1.1), []⟩, vb r_1.2, ⟨.tup [], [([2], some (.cells [.i r_1.1.Name, .i r_1.1.A, .i r_1.1.B, .b r_1.1.Mod] 0))]⟩, vb r_1.2] <| Rk <| Runs.ret <| kB_ret <| kS_ret ?_
  cases h
  exact Fq
 | false =>
  replace h := ite_f hb_1 h
  refine Cf <| Sq <| Ro <| Rc 2 [vb ((bitsOp .and .u8 op_ 7) == 1), vb ((bitsOp .and .u8 op_ 7) == 1)] <| Rk ?_
  cases hb_2 : (((bitsOp .and .u8 op_ 7) == 1) : Bool) with
  | true =>
   replace h := ite_t hb_2 h
   refine Ct <| Sq <| Ro <| Rc 1 [vi (IntKind.wrap .i64 (1 + (IntKind.wrap .i64 (shrI .u8 op_ 3))))] ?_
   obtain ⟨r_2, hr_2, h⟩ := bind_s h
   have hc_2 := isa_mod_L (IntKind.wrap .i64 (1 + (IntKind.wrap .i64 (shrI .u8 op_ 3)))) 2 4 r_2 hr_2
   refine Rt (some 20) (.callf 67) [] none [.i (IntKind.wrap .i64 (1 + (IntKind.wrap .i64 (shrI .u8 op_ 3)))), .i 2, .i 4] (.tup [.d (Row.d r_2.1), .b r_2.2]) [] (cc hc_2) <| Rc 4 [⟨.d (Row.d r_2.1), []⟩, vb r_2.2, ⟨.tup [], [([2], some (.cells [.i r_2.1.Name, .i r_2.1.A, .i r_2.1.B, .b r_2.1.Mod] 0))]⟩, vb r_2.2] <| Rk <| Runs.ret <| kB_ret <| kS_ret ?_
   cases h
   exact Fq
  | false =>
   replace h := ite_f hb_2 h
   refine Cf <| Sq <| Ro <| Rc 2 [vb ((bitsOp .and .u8 op_ 7) == 2), vb ((bitsOp .and .u8 op_ 7) == 2)] <| Rk ?_
   cases hb_3 : (((bitsOp .and .u8 op_ 7) == 2) : Bool) with
   | true =>
    replace h := ite_t hb_3 h
    refine Ct <| Sq <| Ro <| Rc 1 [vi (IntKind.wrap .i64 (1 + (IntKind.wrap .i64 (shrI .u8 op_ 3))))] ?_
    obtain ⟨r_3, hr_3, h⟩ := bind_s h
    have hc_3 := isa_mod_L (IntKind.wrap .i64 (1 + (IntKind.wrap .i64 (shrI .u8 op_ 3)))) 3 1 r_3 hr_3
    refine Rt (some 26) (.callf 67) [] none [.i (IntKind.wrap .i64 (1 + (IntKind.wrap .i64 (shrI .u8 op_ 3)))), .i 3, .i 1] (.tup [.d (Row.d r_3.1), .b r_3.2]) [] (cc hc_3) <| Rc 4 [⟨.d (Row.d r_3.1), []⟩, vb r_3.2, ⟨.tup [], [([2], some (.cells [.i r_3.1.Name, .i r_3.1.A, .i r_3.1.B, .b r_3.1.Mod] 0))]⟩, vb r_3.2] <| Rk <| Runs.ret <| kB_ret <| kS_ret ?_
    cases h
    exact Fq
   | false =>
    replace h := ite_f hb_3 h
    refine Cf <| Sq <| Ro <| Rc 2 [vb ((bitsOp .and .u8 op_ 7) == 3), vb ((bitsOp .and .u8 op_ 7) == 3)] <| Rk ?_
    cases hb_4 : (((bitsOp .and .u8 op_ 7) == 3) : Bool) with
    | true =>
     replace h := ite_t hb_4 h
     refine Ct <| Sq <| Ro <| Rc 1 [vi (IntKind.wrap .i64 (1 + (IntKind.wrap .i64 (shrI .u8 op_ 3))))] ?_
     obtain ⟨r_4, hr_4, h⟩ := bind_s h
     have hc_4 := isa_mod_L (IntKind.wrap .i64 (1 + (IntKind.wrap .i64 (shrI .u8 op_ 3)))) 4 2 r_4 hr_4
     refine Rt (some 32) (.callf 67) [] none [.i (IntKind.wrap .i64 (1 + (IntKind.wrap .i64 (shrI .u8 op_ 3)))), .i 4, .i 2] (.tup [.d (Row.d r_4.1), .b r_4.2]) [] (cc hc_4) <| Rc 4 [⟨.d (Row.d r_4.1), []⟩, vb r_4.2, ⟨.tup [], [([2], some (.cells [.i r_4.1.Name, .i r_4.1.A, .i r_4.1.B, .b r_4.1.Mod] 0))]⟩, vb r_4.2] <| Rk <| Runs.ret <| kB_ret <| kS_ret ?_
     cases h
     exact Fq
    | false =>
     replace h := ite_f hb_4 h
     refine Cf <| Sq <| Ro <| Rc 2 [vb ((bitsOp .and .u8 op_ 7) == 4), vb ((bitsOp .and .u8 op_ 7) == 4)] <| Rk ?_
     cases hb_5 : (((bitsOp .and .u8 op_ 7) == 4) : Bool) with
     | true =>
      replace h := ite_t hb_5 h
      refine Ct <| Sq <| Ro <| Rc 1 [vi (IntKind.wrap .i64 (1 + (IntKind.wrap .i64 (shrI .u8 op_ 3))))] ?_
      obtain ⟨r_5, hr_5, h⟩ := bind_s h
      have hc_5 := isa_row_L (IntKind.wrap .i64 (1 + (IntKind.wrap .i64 (shrI .u8 op_ 3)))) 14 6 r_5 hr_5
      refine Rt (some 38) (.callf 38) [] none [.i (IntKind.wrap .i64 (1 + (IntKind.wrap .i64 (shrI .u8 op_ 3)))), .i 14, .i 6] (.tup [.d (Row.d r_5.1), .b r_5.2]) [] (cc hc_5) <| Rc 4 [⟨.d (Row.d r_5.1), []⟩, vb r_5.2, ⟨.tup [], [([2], some (.cells [.i r_5.1.Name, .i r_5.1.A, .i r_5.1.B, .b r_5.1.Mod] 0))]⟩, vb r_5.2] <| Rk <| Runs.ret <| kB_ret <| kS_ret ?_
      cases h
      exact Fq
     | false =>
      replace h := ite_f hb_5 h
      refine Cf <| Sq <| Ro <| Rc 2 [vb ((bitsOp .and .u8 op_ 7) == 5), vb ((bitsOp .and .u8 op_ 7) == 5)] <| Rk ?_
      cases hb_6 : (((bitsOp .and .u8 op_ 7) == 5) : Bool) with
      | true =>
       replace h := ite_t hb_6 h
       refine Ct <| Sq <| Ro <| Rc 1 [vi (IntKind.wrap .i64 (1 + (IntKind.wrap .i64 (shrI .u8 op_ 3))))] ?_
       obtain ⟨r_6, hr_6, h⟩ := bind_s h
       have hc_6 := isa_row_L (IntKind.wrap .i64 (1 + (IntKind.wrap .i64 (shrI .u8 op_ 3)))) 16 7 r_6 hr_6
       refine Rt (some 44) (.callf 38) [] none [.i (IntKind.wrap .i64 (1 + (IntKind.wrap .i64 (shrI .u8 op_ 3)))), .i 16, .i 7] (.tup [.d (Row.d r_6.1), .b r_6.2]) [] (cc hc_6) <| Rc 4 [⟨.d (Row.d r_6.1), []⟩, vb r_6.2, ⟨.tup [], [([2], some (.cells [.i r_6.1.Name, .i r_6.1.A, .i r_6.1.B, .b r_6.1.Mod] 0))]⟩, vb r_6.2] <| Rk <| Runs.ret <| kB_ret <| kS_ret ?_
       cases h
       exact Fq
      | false =>
       replace h := ite_f hb_6 h
       refine Cf <| Runs.skip <| kB_nrm <| kS_nrm <| Sq <| Sq <| Ro <| Rc 1 [vy op_] <| Rk <| Runs.block <| Sq <| Sq <| Ro <| Rc 2 [vb (op_ == 6), vb (op_ == 6)] <| Rk ?_
       cases hb_7 : ((op_ == 6) : Bool) with
       | true =>
        replace h := ite_t hb_7 h
        refine Ct <| Runs.skip <| kS_nrm <| Runs.canon (isa_sums_h63 ({ Name := 0, A := 0, B := 0, Mod := false } : Row) op_ true) Cz ?_
        exact isa_sums_j63_ok op_ ({ Name := 0, A := 0, B := 0, Mod := false } : Row) op_ true r h
       | false =>
        replace h := ite_f hb_7 h
        refine Cf <| Sq <| Ro <| Rc 2 [vb (op_ == 14), vb (op_ == 14)] <| Rk ?_
        cases hb_16 : ((op_ == 14) : Bool) with
        | true =>
         replace h := ite_t hb_16 h
         refine Ct <| Runs.skip <| kS_nrm <| Runs.canon (isa_sums_h63 ({ Name := 0, A := 0, B := 0, Mod := false } : Row) op_ true) Cz ?_
         exact isa_sums_j63_ok op_ ({ Name := 0, A := 0, B := 0, Mod := false } : Row) op_ true r h
        | false =>
         replace h := ite_f hb_16 h
         refine Cf <| Sq <| Ro <| Rc 2 [vb (op_ == 22), vb (op_ == 22)] <| Rk ?_
         cases hb_17 : ((op_ == 22) : Bool) with
         | true =>
          replace h := ite_t hb_17 h
          refine Ct <| Runs.skip <| kS_nrm <| Runs.canon (isa_sums_h63 ({ Name := 0, A := 0, B := 0, Mod := false } : Row) op_ true) Cz ?_
          exact isa_sums_j63_ok op_ ({ Name := 0, A := 0, B := 0, Mod := false } : Row) op_ true r h
         | false =>
          replace h := ite_f hb_17 h
          refine Cf <| Ro <| Rc 2 [vb (op_ == 30), vb (op_ == 30)] <| Rk <| Runs.canon (isa_sums_h63 ({ Name := 0, A := 0, B := 0, Mod := false } : Row) op_ (op_ == 30)) Cz ?_
          exact isa_sums_j63_ok op_ ({ Name := 0, A := 0, B := 0, Mod := false } : Row) op_ (op_ == 30) r h
theorem isa_sums_L (op_ : Int) (r : (Row × Bool)) (h : isa_sums op_ = some r) : L0 37 [.y op_] = some (.tup [.d (Row.d r.1), .b r.2], [.y op_]) := by
 obtain ⟨p, ⟨hne, hf⟩, hr⟩ := isa_sums_ok op_ r h
 obtain ⟨k, hk⟩ := run_of (F := F37) (args := [.y op_]) (ap := [.y op_]) (bx0 := updW (fun _ => none) []) rfl rfl (by kernel_rfl) ⟨p, ⟨hne, hf⟩, hr⟩
 exact lim_run (k := k) rfl hk
def isa_moves_Q (op_ : Int) (reg_ : Int) (r : (Row × Bool)) (p : Out × St) : Prop := (∀ i, p.1 ≠ .exit i) ∧ finF F40 [.y op_, .i reg_] p.2 = some (.tup [.d (Row.d r.1), .b r.2], [.y op_, .i reg_])
theorem isa_moves_ok (op_ : Int) (reg_ : Int) (r : (Row × Bool)) (h : isa_moves op_ reg_ = some r) : Runs L0 F40.body ⟨tmOf [.y op_, .i reg_] 0, updW (fun _ => none) []⟩ (isa_moves_Q op_ reg_ r) := by
 unfold isa_moves at h
 refine Sq <| Ro <| Rc 2 [⟨.ptr [4] 0 0, [([4], some (.cells [.i 0, .i 0, .i 0, .b false] 0))]⟩, vb false] <| Rk <| Sq <| Sq <| Ro <| Rc 1 [vy op_] <| Rk <| Runs.block <| Sq <| Ro <| Rc 2 [vb (op_ == 128), vb (op_ == 128)] <| Rk ?_
 cases hb_1 : ((op_ == 128) : Bool) with
 | true =>
  replace h := ite_t hb_1 h
  refine Ct <| Sq <| Ro <| Rc 2 [vi reg_, vi (IntKind.wrap .i64 (1 + reg_))] ?_
  obtain ⟨r_1, hr_1, h⟩ := bind_s h
  have hc_1 := isa_mod_L (IntKind.wrap .i64 (1 + reg_)) 1 6 r_1 hr_1
  refine Rt (some 11) (.callf 67) [] none [.i (IntKind.wrap .i64 (1 + reg_)), .i 1, .i 6] (.tup [.d (Row.d r_1.1), .b r_1.2]) [] (cc hc_1) <| Rc 4 [⟨.d (Row.d r_1.1), []⟩, vb r_1.2, ⟨.tup [], [([4], some (.cells [.i r_1.1.Name, .i r_1.1.A, .i r_1.1.B, .b r_1.1.Mod] 0))]⟩, vb r_1.2] <| Rk <| Runs.ret <| kB_ret <| kS_ret ?_
  cases h
  exact Fq
 | false =>
  replace h := ite_f hb_1 h
  refine Cf <| Sq <| Ro <| Rc 2 [vb (op_ == 129), vb (op_ == 129)] <| Rk ?_
  cases hb_2 : ((op_ == 129) : Bool) with
  | true =>
   replace h := ite_t hb_2 h
   refine Ct <| Sq <| Ro <| Rc 2 [vi reg_, vi (IntKind.wrap .i64 (1 + reg_))] ?_
   obtain ⟨r_2, hr_2, h⟩ := bind_s h
   have hc_2 := isa_mod_L (IntKind.wrap .i64 (1 + reg_)) 2 7 r_2 hr_2
   refine Rt (some 18) (.callf 67) [] none [.i (IntKind.wrap .i64 (1 + reg_)), .i 2, .i 7] (.tup [.d (Row.d r_2.1), .b r_2.2]) [] (cc hc_2) <| Rc 4 [⟨.d (Row.d r_2.1), []⟩, vb r_2.2, ⟨.tup [], [([4], some (.cells [.i r_2.1.Name, .i r_2.1.A, .i r_2.1.B, .b r_2.1.Mod] 0))]⟩, vb r_2.2] <| Rk <| Runs.ret <| kB_ret <| kS_ret ?_
   cases h
   exact Fq
  | false =>
   replace h := ite_f hb_2 h
   refine Cf <| Sq <| Ro <| Rc 2 [vb (op_ == 131), vb (op_ == 131)] <| Rk ?_
   cases hb_3 : ((op_ == 131) : Bool) with
   | true =>
    replace h := ite_t hb_3 h
    refine Ct <| Sq <| Sq <| Ro <| Rc 3 [vi reg_, vb (reg_ == 1), vb (reg_ == 1)] ?_
    cases hb_4 : ((reg_ == 1) : Bool) with
    | true =>
     replace h := ite_t hb_4 h
     refine Rc 7 [vn, vn, vb true, vb true, vn, vn, vb true] <| Rk <| Ct <| Sq <| Ro ?_
     obtain ⟨r_3, hr_3, h⟩ := bind_s h
     have hc_3 := isa_bad_L r_3 hr_3
     refine Rt (some 33) (.callf 39) [] none [] (.tup [.d (Row.d r_3.1), .b r_3.2]) [] (cc hc_3) <| Rc 4 [⟨.d (Row.d r_3.1), []⟩, vb r_3.2, ⟨.tup [], [([4], some (.cells [.i r_3.1.Name, .i r_3.1.A, .i r_3.1.B, .b r_3.1.Mod] 0))]⟩, vb r_3.2] <| Rk <| Runs.ret <| kS_ret <| kB_ret <| kS_ret ?_
     cases h
     exact Fq
    | false =>
     replace h := ite_f hb_4 h
     refine Rc 4 [vi reg_, vb (reg_ == 4), vb (reg_ == 4), vb (reg_ == 4)] ?_
     cases hb_5 : ((reg_ == 4) : Bool) with
     | true =>
      replace h := ite_t hb_5 h
      refine Rc 3 [vn, vn, vb true] <| Rk <| Ct <| Sq <| Ro ?_
      obtain ⟨r_4, hr_4, h⟩ := bind_s h
      have hc_4 := isa_bad_L r_4 hr_4
      refine Rt (some 33) (.callf 39) [] none [] (.tup [.d (Row.d r_4.1), .b r_4.2]) [] (cc hc_4) <| Rc 4 [⟨.d (Row.d r_4.1), []⟩, vb r_4.2, ⟨.tup [], [([4], some (.cells [.i r_4.1.Name, .i r_4.1.A, .i r_4.1.B, .b r_4.1.Mod] 0))]⟩, vb r_4.2] <| Rk <| Runs.ret <| kS_ret <| kB_ret <| kS_ret ?_
      cases h
      exact Fq
     | false =>
      replace h := ite_f hb_5 h
      refine Rc 3 [vi reg_, vb (reg_ == 6), vb (reg_ == 6)] <| Rk ?_
      cases hb_6 : ((reg_ == 6) : Bool) with
      | true =>
       replace h := ite_t hb_6 h
       refine Ct <| Sq <| Ro ?_
       obtain ⟨r_5, hr_5, h⟩ := bind_s h
       have hc_5 := isa_bad_L r_5 hr_5
       refine Rt (some 33) (.callf 39) [] none [] (.tup [.d (Row.d r_5.1), .b r_5.2]) [] (cc hc_5) <| Rc 4 [⟨.d (Row.d r_5.1), []⟩, vb r_5.2, ⟨.tup [], [([4], some (.cells [.i r_5.1.Name, .i r_5.1.A, .i r_5.1.B, .b r_5.1.Mod] 0))]⟩, vb r_5.2] <| Rk <| Runs.ret <| kS_ret <| kB_ret <| kS_ret ?_
       cases h
       exact Fq
      | false =>
       replace h := ite_f hb_6 h
       refine Cf <| Runs.skip <| kS_nrm <| Sq <| Ro <| Rc 2 [vi reg_, vi (IntKind.wrap .i64 (1 + reg_))] ?_
       obtain ⟨r_6, hr_6, h⟩ := bind_s h
       have hc_6 := isa_mod_L (IntKind.wrap .i64 (1 + reg_)) 2 8 r_6 hr_6
       refine Rt (some 38) (.callf 67) [] none [.i (IntKind.wrap .i64 (1 + reg_)), .i 2, .i 8] (.tup [.d (Row.d r_6.1), .b r_6.2]) [] (cc hc_6) <| Rc 4 [⟨.d (Row.d r_6.1), []⟩, vb r_6.2, ⟨.tup [], [([4], some (.cells [.i r_6.1.Name, .i r_6.1.A, .i r_6.1.B, .b r_6.1.Mod] 0))]⟩, vb r_6.2] <| Rk <| Runs.ret <| kB_ret <| kS_ret ?_
       cases h
       exact Fq
   | false =>
    replace h := ite_f hb_3 h
    refine Cf <| Sq <| Ro <| Rc 2 [vb (op_ == 132), vb (op_ == 132)] <| Rk ?_
    cases hb_7 : ((op_ == 132) : Bool) with
    | true =>
     replace h := ite_t hb_7 h
     refine Ct <| Sq <| Ro ?_
     obtain ⟨r_7, hr_7, h⟩ := bind_s h
     have hc_7 := isa_mod_L 33 1 3 r_7 hr_7
     refine Rt (some 43) (.callf 67) [] none [.i 33, .i 1, .i 3] (.tup [.d (Row.d r_7.1), .b r_7.2]) [] (cc hc_7) <| Rc 4 [⟨.d (Row.d r_7.1), []⟩, vb r_7.2, ⟨.tup [], [([4], some (.cells [.i r_7.1.Name, .i r_7.1.A, .i r_7.1.B, .b r_7.1.Mod] 0))]⟩, vb r_7.2] <| Rk <| Runs.ret <| kB_ret <| kS_ret ?_
     cases h
     exact Fq
    | false =>
     replace h := ite_f hb_7 h
     refine Cf <| Sq <| Ro <| Rc 2 [vb (op_ == 133), vb (op_ == 133)] <| Rk ?_
     cases hb_8 : ((op_ == 133) : Bool) with
     | true =>
      replace h := ite_t hb_8 h
      refine Ct <| Sq <| Ro ?_
      obtain ⟨r_8, hr_8, h⟩ := bind_s h
      have hc_8 := isa_mod_L 33 2 4 r_8 hr_8
      refine Rt (some 48) (.callf 67) [] none [.i 33, .i 2, .i 4] (.tup [.d (Row.d r_8.1), .b r_8.2]) [] (cc hc_8) <| Rc 4 [⟨.d (Row.d r_8.1), []⟩, vb r_8.2, ⟨.tup [], [([4], some (.cells [.i r_8.1.Name, .i r_8.1.A, .i r_8.1.B, .b r_8.1.Mod] 0))]⟩, vb r_8.2] <| Rk <| Runs.ret <| kB_ret <| kS_ret ?_
      cases h
      exact Fq
     | false =>
      replace h := ite_f hb_8 h
      refine Cf <| Sq <| Ro <| Rc 2 [vb (op_ == 134), vb (op_ == 134)] <| Rk ?_
      cases hb_9 : ((op_ == 134) : Bool) with
      | true =>
       replace h := ite_t hb_9 h
       refine Ct <| Sq <| Ro ?_
       obtain ⟨r_9, hr_9, h⟩ := bind_s h
       have hc_9 := isa_mod_L 34 1 3 r_9 hr_9
       refine Rt (some 53) (.callf 67) [] none [.i 34, .i 1, .i 3] (.tup [.d (Row.d r_9.1), .b r_9.2]) [] (cc hc_9) <| Rc 4 [⟨.d (Row.d r_9.1), []⟩, vb r_9.2, ⟨.tup [], [([4], some (.cells [.i r_9.1.Name, .i r_9.1.A, .i r_9.1.B, .b r_9.1.Mod] 0))]⟩, vb r_9.2] <| Rk <| Runs.ret <| kB_ret <| kS_ret ?_
       cases h
       exact Fq
      | false =>
       replace h := ite_f hb_9 h
       refine Cf <| Sq <| Ro <| Rc 2 [vb (op_ == 135), vb (op_ == 135)] <| Rk ?_
       cases hb_10 : ((op_ == 135) : Bool) with
       | true =>
        replace h := ite_t hb_10 h
        refine Ct <| Sq <| Ro ?_
        obtain ⟨r_10, hr_10, h⟩ := bind_s h
        have hc_10 := isa_mod_L 34 2 4 r_10 hr_10
        refine Rt (some 58) (.callf 67) [] none [.i 34, .i 2, .i 4] (.tup [.d (Row.d r_10.1), .b r_10.2]) [] (cc hc_10) <| Rc 4 [⟨.d (Row.d r_10.1), []⟩, vb r_10.2, ⟨.tup [], [([4], some (.cells [.i r_10.1.Name, .i r_10.1.A, .i r_10.1.B, .b r_10.1.Mod] 0))]⟩, vb r_10.2] <| Rk <| Runs.ret <| kB_ret <| kS_ret ?_
        cases h
        exact Fq
       | false =>
        replace h := ite_f hb_10 h
        refine Cf <| Sq <| Ro <| Rc 2 [vb (op_ == 136), vb (op_ == 136)] <| Rk ?_
        cases hb_11 : ((op_ == 136) : Bool) with
        | true =>
         replace h := ite_t hb_11 h
         refine Ct <| Sq <| Ro ?_
         obtain ⟨r_11, hr_11, h⟩ := bind_s h
         have hc_11 := isa_mod_L 35 1 3 r_11 hr_11
         refine Rt (some 63) (.callf 67) [] none [.i 35, .i 1, .i 3] (.tup [.d (Row.d r_11.1), .b r_11.2]) [] (cc hc_11) <| Rc 4 [⟨.d (Row.d r_11.1), []⟩, vb r_11.2, ⟨.tup [], [([4], some (.cells [.i r_11.1.Name, .i r_11.1.A, .i r_11.1.B, .b r_11.1.Mod] 0))]⟩, vb r_11.2] <| Rk <| Runs.ret <| kB_ret <| kS_ret ?_
         cases h
         exact Fq
        | false =>
         replace h := ite_f hb_11 h
         refine Cf <| Sq <| Ro <| Rc 2 [vb (op_ == 137), vb (op_ == 137)] <| Rk ?_
         cases hb_12 : ((op_ == 137) : Bool) with
         | true =>
          replace h := ite_t hb_12 h
          refine Ct <| Sq <| Ro ?_
          obtain ⟨r_12, hr_12, h⟩ := bind_s h
          have hc_12 := isa_mod_L 35 2 4 r_12 hr_12
          refine Rt (some 68) (.callf 67) [] none [.i 35, .i 2, .i 4] (.tup [.d (Row.d r_12.1), .b r_12.2]) [] (cc hc_12) <| Rc 4 [⟨.d (Row.d r_12.1), []⟩, vb r_12.2, ⟨.tup [], [([4], some (.cells [.i r_12.1.Name, .i r_12.1.A, .i r_12.1.B, .b r_12.1.Mod] 0))]⟩, vb r_12.2] <| Rk <| Runs.ret <| kB_ret <| kS_ret ?_
          cases h
          exact Fq
         | false =>
          replace h := ite_f hb_12 h
          refine Cf <| Sq <| Ro <| Rc 2 [vb (op_ == 138), vb (op_ == 138)] <| Rk ?_
          cases hb_13 : ((op_ == 138) : Bool) with
          | true =>
           replace h := ite_t hb_13 h
           refine Ct <| Sq <| Ro ?_
           obtain ⟨r_13, hr_13, h⟩ := bind_s h
           have hc_13 := isa_mod_L 35 3 1 r_13 hr_13
           refine Rt (some 73) (.callf 67) [] none [.i 35, .i 3, .i 1] (.tup [.d (Row.d r_13.1), .b r_13.2]) [] (cc hc_13) <| Rc 4 [⟨.d (Row.d r_13.1), []⟩, vb r_13.2, ⟨.tup [], [([4], some (.cells [.i r_13.1.Name, .i r_13.1.A, .i r_13.1.B, .b r_13.1.Mod] 0))]⟩, vb r_13.2] <| Rk <| Runs.ret <| kB_ret <| kS_ret ?_
           cases h
           exact Fq
          | false =>
           replace h := ite_f hb_13 h
           refine Cf <| Sq <| Ro <| Rc 2 [vb (op_ == 139), vb (op_ == 139)] <| Rk ?_
           cases hb_14 : ((op_ == 139) : Bool) with
           | true =>
            replace h := ite_t hb_14 h
            refine Ct <| Sq <| Ro ?_
            obtain ⟨r_14, hr_14, h⟩ := bind_s h
            have hc_14 := isa_mod_L 35 4 2 r_14 hr_14
            refine Rt (some 78) (.callf 67) [] none [.i 35, .i 4, .i 2] (.tup [.d (Row.d r_14.1), .b r_14.2]) [] (cc hc_14) <| Rc 4 [⟨.d (Row.d r_14.1), []⟩, vb r_14.2, ⟨.tup [], [([4], some (.cells [.i r_14.1.Name, .i r_14.1.A, .i r_14.1.B, .b r_14.1.Mod] 0))]⟩, vb r_14.2] <| Rk <| Runs.ret <| kB_ret <| kS_ret ?_
            cases h
            exact Fq
           | false =>
            replace h := ite_f hb_14 h
            refine Cf <| Sq <| Ro <| Rc 2 [vb (op_ == 140), vb (op_ == 140)] <| Rk ?_
            cases hb_15 : ((op_ == 140) : Bool) with
            | true =>
             replace h := ite_t hb_15 h
             refine Ct <| Sq <| Ro <| Rc 2 [vi reg_, vb (decide (reg_ < 4))] <| Rk ?_
             cases hb_16 : ((decide (reg_ < 4)) : Bool) with
             | true =>
              replace h := ite_t hb_16 h
              refine Ct <| Sq <| Ro ?_
              obtain ⟨r_15, hr_15, h⟩ := bind_s h
              have hc_15 := isa_mod_L 35 2 5 r_15 hr_15
              refine Rt (some 85) (.callf 67) [] none [.i 35, .i 2, .i 5] (.tup [.d (Row.d r_15.1), .b r_15.2]) [] (cc hc_15) <| Rc 4 [⟨.d (Row.d r_15.1), []⟩, vb r_15.2, ⟨.tup [], [([4], some (.cells [.i r_15.1.Name, .i r_15.1.A, .i r_15.1.B, .b r_15.1.Mod] 0))]⟩, vb r_15.2] <| Rk <| Runs.ret <| kB_ret <| kS_ret ?_
              cases h
              exact Fq
             | false =>
              replace h := ite_f hb_16 h
              refine Cf <| Runs.skip <| kB_nrm <| kS_nrm <| Sq <| Ro ?_
              obtain ⟨r_16, hr_16, h⟩ := bind_s h
              have hc_16 := isa_bad_L r_16 hr_16
              refine Rt (some 111) (.callf 39) [] none [] (.tup [.d (Row.d r_16.1), .b r_16.2]) [] (cc hc_16) <| Rc 4 [⟨.d (Row.d r_16.1), []⟩, vb r_16.2, ⟨.tup [], [([4], some (.cells [.i r_16.1.Name, .i r_16.1.A, .i r_16.1.B, .b r_16.1.Mod] 0))]⟩, vb r_16.2] <| Rk <| Runs.ret ?_
              cases h
              exact Fq
            | false =>
             replace h := ite_f hb_15 h
             refine Cf <| Sq <| Ro <| Rc 2 [vb (op_ == 141), vb (op_ == 141)] <| Rk ?_
             cases hb_17 : ((op_ == 141) : Bool) with
             | true =>
              replace h := ite_t hb_17 h
              refine Ct <| Sq <| Ro ?_
              obtain ⟨r_17, hr_17, h⟩ := bind_s h
              have hc_17 := isa_mod_L 36 4 20 r_17 hr_17
              refine Rt (some 90) (.callf 67) [] none [.i 36, .i 4, .i 20] (.tup [.d (Row.d r_17.1), .b r_17.2]) [] (cc hc_17) <| Rc 4 [⟨.d (Row.d r_17.1), []⟩, vb r_17.2, ⟨.tup [], [([4], some (.cells [.i r_17.1.Name, .i r_17.1.A, .i r_17.1.B, .b r_17.1.Mod] 0))]⟩, vb r_17.2] <| Rk <| Runs.ret <| kB_ret <| kS_ret ?_
              cases h
              exact Fq
             | false =>
              replace h := ite_f hb_17 h
              refine Cf <| Sq <| Ro <| Rc 2 [vb (op_ == 142), vb (op_ == 142)] <| Rk ?_
              cases hb_18 : ((op_ == 142) : Bool) with
              | true =>
               replace h := ite_t hb_18 h
               refine Ct <| Sq <| Ro <| Rc 3 [vi reg_, vb (decide (reg_ < 4)), vb (decide (reg_ < 4))] ?_
               cases hb_19 : ((decide (reg_ < 4)) : Bool) with
               | true =>
                replace h := ite_t hb_19 h
                refine Rc 3 [vi reg_, vb (reg_ != 1), vb (reg_ != 1)] <| Rk ?_
                cases hb_20 : ((reg_ != 1) : Bool) with
                | true =>
                 replace h := ite_t hb_20 h
                 refine Ct <| Sq <| Ro ?_
                 obtain ⟨r_18, hr_18, h⟩ := bind_s h
                 have hc_18 := isa_mod_L 35 5 2 r_18 hr_18
                 refine Rt (some 101) (.callf 67) [] none [.i 35, .i 5, .i 2] (.tup [.d (Row.d r_18.1), .b r_18.2]) [] (cc hc_18) <| Rc 4 [⟨.d (Row.d r_18.1), []⟩, vb r_18.2, ⟨.tup [], [([4], some (.cells [.i r_18.1.Name, .i r_18.1.A, .i r_18.1.B, .b r_18.1.Mod] 0))]⟩, vb r_18.2] <| Rk <| Runs.ret <| kB_ret <| kS_ret ?_
                 cases h
                 exact Fq
                | false =>
                 replace h := ite_f hb_20 h
                 refine Cf <| Runs.skip <| kB_nrm <| kS_nrm <| Sq <| Ro ?_
                 obtain ⟨r_19, hr_19, h⟩ := bind_s h
                 have hc_19 := isa_bad_L r_19 hr_19
                 refine Rt (some 111) (.callf 39) [] none [] (.tup [.d (Row.d r_19.1), .b r_19.2]) [] (cc hc_19) <| Rc 4 [⟨.d (Row.d r_19.1), []⟩, vb r_19.2, ⟨.tup [], [([4], some (.cells [.i r_19.1.Name, .i r_19.1.A, .i r_19.1.B, .b r_19.1.Mod] 0))]⟩, vb r_19.2] <| Rk <| Runs.ret ?_
                 cases h
                 exact Fq
               | false =>
                replace h := ite_f hb_19 h
                refine Rc 3 [vn, vn, vb false] <| Rk <| Cf <| Runs.skip <| kB_nrm <| kS_nrm <| Sq <| Ro ?_
                obtain ⟨r_20, hr_20, h⟩ := bind_s h
                have hc_20 := isa_bad_L r_20 hr_20
                refine Rt (some 111) (.callf 39) [] none [] (.tup [.d (Row.d r_20.1), .b r_20.2]) [] (cc hc_20) <| Rc 4 [⟨.d (Row.d r_20.1), []⟩, vb r_20.2, ⟨.tup [], [([4], some (.cells [.i r_20.1.Name, .i r_20.1.A, .i r_20.1.B, .b r_20.1.Mod] 0))]⟩, vb r_20.2] <| Rk <| Runs.ret ?_
                cases h
                exact Fq
              | false =>
               replace h := ite_f hb_18 h
               refine Cf <| Sq <| Ro <| Rc 2 [vb (op_ == 143), vb (op_ == 143)] <| Rk ?_
               cases hb_21 : ((op_ == 143) : Bool) with
               | true =>
                replace h := ite_t hb_21 h
                refine Ct <| Sq <| Ro <| Rc 2 [vi reg_, vb (reg_ == 0)] <| Rk ?_
                cases hb_22 : ((reg_ == 0) : Bool) with
                | true =>
                 replace h := ite_t hb_22 h
                 refine Ct <| Sq <| Ro ?_
                 obtain ⟨r_21, hr_21, h⟩ := bind_s h
                 have hc_21 := isa_mod_L 10 2 0 r_21 hr_21
                 refine Rt (some 108) (.callf 67) [] none [.i 10, .i 2, .i 0] (.tup [.d (Row.d r_21.1), .b r_21.2]) [] (cc hc_21) <| Rc 4 [⟨.d (Row.d r_21.1), []⟩, vb r_21.2, ⟨.tup [], [([4], some (.cells [.i r_21.1.Name, .i r_21.1.A, .i r_21.1.B, .b r_21.1.Mod] 0))]⟩, vb r_21.2] <| Rk <| Runs.ret <| kB_ret <| kS_ret ?_
                 cases h
                 exact Fq
                | false =>
                 replace h := ite_f hb_22 h
                 refine Cf <| Runs.skip <| kB_nrm <| kS_nrm <| Sq <| Ro ?_
                 obtain ⟨r_22, hr_22, h⟩ := bind_s h
                 have hc_22 := isa_bad_L r_22 hr_22
                 refine Rt (some 111) (.callf 39) [] none [] (.tup [.d (Row.d r_22.1), .b r_22.2]) [] (cc hc_22) <| Rc 4 [⟨.d (Row.d r_22.1), []⟩, vb r_22.2, ⟨.tup [], [([4], some (.cells [.i r_22.1.Name, .i r_22.1.A, .i r_22.1.B, .b r_22.1.Mod] 0))]⟩, vb r_22.2] <| Rk <| Runs.ret ?_
                 cases h
                 exact Fq
               | false =>
                replace h := ite_f hb_21 h
                refine Cf <| Runs.skip <| kB_nrm <| kS_nrm <| Sq <| Ro ?_
                obtain ⟨r_23, hr_23, h⟩ := bind_s h
                have hc_23 := isa_bad_L r_23 hr_23
                refine Rt (some 111) (.callf 39) [] none [] (.tup [.d (Row.d r_23.1), .b r_23.2]) [] (cc hc_23) <| Rc 4 [⟨.d (Row.d r_23.1), []⟩, vb r_23.2, ⟨.tup [], [([4], some (.cells [.i r_23.1.Name, .i r_23.1.A, .i r_23.1.B, .b r_23.1.Mod] 0))]⟩, vb r_23.2] <| Rk <| Runs.ret ?_
                cases h
                exact Fq
theorem isa_moves_L (op_ : Int) (reg_ : Int) (r : (Row × Bool)) (h : isa_moves op_ reg_ = some r) : L0 40 [.y op_, .i reg_] = some (.tup [.d (Row.d r.1), .b r.2], [.y op_, .i reg_]) := by
 obtain ⟨p, ⟨hne, hf⟩, hr⟩ := isa_moves_ok op_ reg_ r h
 obtain ⟨k, hk⟩ := run_of (F := F40) (args := [.y op_, .i reg_]) (ap := [.y op_, .i reg_]) (bx0 := updW (fun _ => none) []) rfl rfl (by kernel_rfl) ⟨p, ⟨hne, hf⟩, hr⟩
 exact lim_run (k := k) rfl hk
def isa_words_Q (op_ : Int) (r : (Row × Bool)) (p : Out × St) : Prop := (∀ i, p.1 ≠ .exit i) ∧ finF F41 [.y op_] p.2 = some (.tup [.d (Row.d r.1), .b r.2], [.y op_])
theorem isa_words_ok (op_ : Int) (r : (Row × Bool)) (h : isa_words op_ = some r) : Runs L0 F41.body ⟨tmOf [.y op_] 0, updW (fun _ => none) []⟩ (isa_words_Q op_ r) := by
 unfold isa_words at h
 refine Sq <| Ro <| Rc 2 [⟨.ptr [2] 0 0, [([2], some (.cells [.i 0, .i 0, .i 0, .b false] 0))]⟩, vb false] <| Rk <| Sq <| Sq <| Ro <| Rc 2 [vy op_, vb (decide (op_ < 152))] <| Rk ?_
 cases hb_1 : ((decide (op_ < 152)) : Bool) with
 | true =>
  replace h := ite_t hb_1 h
  refine Ct <| Sq <| Ro ?_
  obtain ⟨r_1, hr_1, h⟩ := bind_s h
  have hc_1 := isa_row_L 34 16 22 r_1 hr_1
  refine Rt (some 7) (.callf 38) [] none [.i 34, .i 16, .i 22] (.tup [.d (Row.d r_1.1), .b r_1.2]) [] (cc hc_1) <| Rc 4 [⟨.d (Row.d r_1.1), []⟩, vb r_1.2, ⟨.tup [], [([2], some (.cells [.i r_1.1.Name, .i r_1.1.A, .i r_1.1.B, .b r_1.1.Mod] 0))]⟩, vb r_1.2] <| Rk <| Runs.ret <| kS_ret ?_
  cases h
  exact Fq
 | false =>
  replace h := ite_f hb_1 h
  refine Cf <| Runs.skip <| kS_nrm <| Sq <| Sq <| Ro <| Rc 2 [vy op_, vb (op_ == 154)] <| Rk ?_
  cases hb_2 : ((op_ == 154) : Bool) with
  | true =>
   replace h := ite_t hb_2 h
   refine Ct <| Sq <| Ro ?_
   obtain ⟨r_2, hr_2, h⟩ := bind_s h
   have hc_2 := isa_row_L 40 11 0 r_2 hr_2
   refine Rt (some 12) (.callf 38) [] none [.i 40, .i 11, .i 0] (.tup [.d (Row.d r_2.1), .b r_2.2]) [] (cc hc_2) <| Rc 4 [⟨.d (Row.d r_2.1), []⟩, vb r_2.2, ⟨.tup [], [([2], some (.cells [.i r_2.1.Name, .i r_2.1.A, .i r_2.1.B, .b r_2.1.Mod] 0))]⟩, vb r_2.2] <| Rk <| Runs.ret <| kS_ret ?_
   cases h
   exact Fq
  | false =>
   replace h := ite_f hb_2 h
   refine Cf <| Runs.skip <| kS_nrm <| Sq <| Ro <| Rc 3 [⟨.ref [15] 0 0 (List.map (D.int .i64) ([37, 38, 0, 41, 42, 43, 44, 45] : List Int)).length 1, [([15], some (.arr (List.map (D.int .i64) ([37, 38, 0, 41, 42, 43, 44, 45] : List Int)) 0 false))]⟩, vy op_, vy (IntKind.wrap .u8 (op_ - 152))] ?_
   obtain ⟨z_1, hz_1, h⟩ := bind_s h
   refine Rt (some 18) (.iaddrS 1) [] none [.ref [15] 0 0 (List.map (D.int .i64) ([37, 38, 0, 41, 42, 43, 44, 45] : List Int)).length 1, .y (IntKind.wrap .u8 (op_ - 152))] (.eref [15] 0 (0 + ((IntKind.wrap .u8 (op_ - 152))).toNat) 0) [] (cut_atR (e := (D.int .i64)) (l := ([37, 38, 0, 41, 42, 43, 44, 45] : List Int)) hz_1 rfl) <| Rt (some 19) (.load none) [] none [.eref [15] 0 (0 + ((IntKind.wrap .u8 (op_ - 152))).toNat) 0] (.i z_1) [] (cut_loadR (e := (D.int .i64)) (l := ([37, 38, 0, 41, 42, 43, 44, 45] : List Int)) (fz := false) (y := z_1) (by kernel_rfl) hz_1 (by kernel_rfl) (by kernel_rfl)) <| Rc 1 [vi z_1] <| Rk <| Sq <| Ro <| Rc 1 [vi z_1] ?_
   obtain ⟨r_3, hr_3, h⟩ := bind_s h
   have hc_3 := isa_row_L z_1 0 0 r_3 hr_3
   refine Rt (some 21) (.callf 38) [] none [.i z_1, .i 0, .i 0] (.tup [.d (Row.d r_3.1), .b r_3.2]) [] (cc hc_3) <| Rc 4 [⟨.d (Row.d r_3.1), []⟩, vb r_3.2, ⟨.tup [], [([2], some (.cells [.i r_3.1.Name, .i r_3.1.A, .i r_3.1.B, .b r_3.1.Mod] 0))]⟩, vb r_3.2] <| Rk <| Runs.ret ?_
   cases h
   exact Fq
theorem isa_words_L (op_ : Int) (r : (Row × Bool)) (h : isa_words op_ = some r) : L0 41 [.y op_] = some (.tup [.d (Row.d r.1), .b r.2], [.y op_]) := by
 obtain ⟨p, ⟨hne, hf⟩, hr⟩ := isa_words_ok op_ r h
 obtain ⟨k, hk⟩ := run_of (F := F41) (args := [.y op_]) (ap := [.y op_]) (bx0 := updW (fun _ => none) []) rfl rfl (by kernel_rfl) ⟨p, ⟨hne, hf⟩, hr⟩
 exact lim_run (k := k) rfl hk
def isa_texts_Q (op_ : Int) (r : (Row × Bool)) (p : Out × St) : Prop := (∀ i, p.1 ≠ .exit i) ∧ finF F42 [.y op_] p.2 = some (.tup [.d (Row.d r.1), .b r.2], [.y op_])
theorem isa_texts_ok (op_ : Int) (r : (Row × Bool)) (h : isa_texts op_ = some r) : Runs L0 F42.body ⟨tmOf [.y op_] 0, updW (fun _ => none) []⟩ (isa_texts_Q op_ r) := by
 unfold isa_texts at h
 refine Sq <| Ro <| Rc 2 [⟨.ptr [2] 0 0, [([2], some (.cells [.i 0, .i 0, .i 0, .b false] 0))]⟩, vb false] <| Rk <| Sq <| Sq <| Ro <| Rc 1 [vy op_] <| Rk <| Runs.block <| Sq <| Ro <| Rc 2 [vb (op_ == 160), vb (op_ == 160)] <| Rk ?_
 cases hb_1 : ((op_ == 160) : Bool) with
 | true =>
  replace h := ite_t hb_1 h
  refine Ct <| Sq <| Ro ?_
  obtain ⟨r_1, hr_1, h⟩ := bind_s h
  have hc_1 := isa_row_L 35 14 12 r_1 hr_1
  refine Rt (some 7) (.callf 38) [] none [.i 35, .i 14, .i 12] (.tup [.d (Row.d r_1.1), .b r_1.2]) [] (cc hc_1) <| Rc 4 [⟨.d (Row.d r_1.1), []⟩, vb r_1.2, ⟨.tup [], [([2], some (.cells [.i r_1.1.Name, .i r_1.1.A, .i r_1.1.B, .b r_1.1.Mod] 0))]⟩, vb r_1.2] <| Rk <| Runs.ret <| kB_ret <| kS_ret ?_
  cases h
  exact Fq
 | false =>
  replace h := ite_f hb_1 h
  refine Cf <| Sq <| Ro <| Rc 2 [vb (op_ == 161), vb (op_ == 161)] <| Rk ?_
  cases hb_2 : ((op_ == 161) : Bool) with
  | true =>
   replace h := ite_t hb_2 h
   refine Ct <| Sq <| Ro ?_
   obtain ⟨r_2, hr_2, h⟩ := bind_s h
   have hc_2 := isa_row_L 35 16 13 r_2 hr_2
   refine Rt (some 12) (.callf 38) [] none [.i 35, .i 16, .i 13] (.tup [.d (Row.d r_2.1), .b r_2.2]) [] (cc hc_2) <| Rc 4 [⟨.d (Row.d r_2.1), []⟩, vb r_2.2, ⟨.tup [], [([2], some (.cells [.i r_2.1.Name, .i r_2.1.A, .i r_2.1.B, .b r_2.1.Mod] 0))]⟩, vb r_2.2] <| Rk <| Runs.ret <| kB_ret <| kS_ret ?_
   cases h
   exact Fq
  | false =>
   replace h := ite_f hb_2 h
   refine Cf <| Sq <| Ro <| Rc 2 [vb (op_ == 162), vb (op_ == 162)] <| Rk ?_
   cases hb_3 : ((op_ == 162) : Bool) with
   | true =>
    replace h := ite_t hb_3 h
    refine Ct <| Sq <| Ro ?_
    obtain ⟨r_3, hr_3, h⟩ := bind_s h
    have hc_3 := isa_row_L 35 12 14 r_3 hr_3
    refine Rt (some 17) (.callf 38) [] none [.i 35, .i 12, .i 14] (.tup [.d (Row.d r_3.1), .b r_3.2]) [] (cc hc_3) <| Rc 4 [⟨.d (Row.d r_3.1), []⟩, vb r_3.2, ⟨.tup [], [([2], some (.cells [.i r_3.1.Name, .i r_3.1.A, .i r_3.1.B, .b r_3.1.Mod] 0))]⟩, vb r_3.2] <| Rk <| Runs.ret <| kB_ret <| kS_ret ?_
    cases h
    exact Fq
   | false =>
    replace h := ite_f hb_3 h
    refine Cf <| Sq <| Ro <| Rc 2 [vb (op_ == 163), vb (op_ == 163)] <| Rk ?_
    cases hb_4 : ((op_ == 163) : Bool) with
    | true =>
     replace h := ite_t hb_4 h
     refine Ct <| Sq <| Ro ?_
     obtain ⟨r_4, hr_4, h⟩ := bind_s h
     have hc_4 := isa_row_L 35 13 16 r_4 hr_4
     refine Rt (some 22) (.callf 38) [] none [.i 35, .i 13, .i 16] (.tup [.d (Row.d r_4.1), .b r_4.2]) [] (cc hc_4) <| Rc 4 [⟨.d (Row.d r_4.1), []⟩, vb r_4.2, ⟨.tup [], [([2], some (.cells [.i r_4.1.Name, .i r_4.1.A, .i r_4.1.B, .b r_4.1.Mod] 0))]⟩, vb r_4.2] <| Rk <| Runs.ret <| kB_ret <| kS_ret ?_
     cases h
     exact Fq
    | false =>
     replace h := ite_f hb_4 h
     refine Cf <| Sq <| Ro <| Rc 2 [vb (op_ == 168), vb (op_ == 168)] <| Rk ?_
     cases hb_5 : ((op_ == 168) : Bool) with
     | true =>
      replace h := ite_t hb_5 h
      refine Ct <| Sq <| Ro ?_
      obtain ⟨r_5, hr_5, h⟩ := bind_s h
      have hc_5 := isa_row_L 33 14 6 r_5 hr_5
      refine Rt (some 27) (.callf 38) [] none [.i 33, .i 14, .i 6] (.tup [.d (Row.d r_5.1), .b r_5.2]) [] (cc hc_5) <| Rc 4 [⟨.d (Row.d r_5.1), []⟩, vb r_5.2, ⟨.tup [], [([2], some (.cells [.i r_5.1.Name, .i r_5.1.A, .i r_5.1.B, .b r_5.1.Mod] 0))]⟩, vb r_5.2] <| Rk <| Runs.ret <| kB_ret <| kS_ret ?_
      cases h
      exact Fq
     | false =>
      replace h := ite_f hb_5 h
      refine Cf <| Sq <| Ro <| Rc 2 [vb (op_ == 169), vb (op_ == 169)] <| Rk ?_
      cases hb_6 : ((op_ == 169) : Bool) with
      | true =>
       replace h := ite_t hb_6 h
       refine Ct <| Sq <| Ro ?_
       obtain ⟨r_6, hr_6, h⟩ := bind_s h
       have hc_6 := isa_row_L 33 16 7 r_6 hr_6
       refine Rt (some 32) (.callf 38) [] none [.i 33, .i 16, .i 7] (.tup [.d (Row.d r_6.1), .b r_6.2]) [] (cc hc_6) <| Rc 4 [⟨.d (Row.d r_6.1), []⟩, vb r_6.2, ⟨.tup [], [([2], some (.cells [.i r_6.1.Name, .i r_6.1.A, .i r_6.1.B, .b r_6.1.Mod] 0))]⟩, vb r_6.2] <| Rk <| Runs.ret <| kB_ret <| kS_ret ?_
       cases h
       exact Fq
      | false =>
       replace h := ite_f hb_6 h
       refine Cf <| Runs.skip <| kB_nrm <| kS_nrm <| Sq <| Sq <| Ro <| Rc 2 [vy op_, vb (decide (op_ < 168))] <| Rk ?_
       cases hb_7 : ((decide (op_ < 168)) : Bool) with
       | true =>
        replace h := ite_t hb_7 h
        refine Ct <| Sq <| Ro <| Rc 4 [vy op_, vy (IntKind.wrap .u8 (op_ - 164)), vi (IntKind.wrap .i64 (IntKind.wrap .u8 (op_ - 164))), vi (IntKind.wrap .i64 (46 + (IntKind.wrap .i64 (IntKind.wrap .u8 (op_ - 164)))))] ?_
        obtain ⟨r_7, hr_7, h⟩ := bind_s h
        have hc_7 := isa_row_L (IntKind.wrap .i64 (46 + (IntKind.wrap .i64 (IntKind.wrap .u8 (op_ - 164))))) 0 0 r_7 hr_7
        refine Rt (some 41) (.callf 38) [] none [.i (IntKind.wrap .i64 (46 + (IntKind.wrap .i64 (IntKind.wrap .u8 (op_ - 164))))), .i 0, .i 0] (.tup [.d (Row.d r_7.1), .b r_7.2]) [] (cc hc_7) <| Rc 4 [⟨.d (Row.d r_7.1), []⟩, vb r_7.2, ⟨.tup [], [([2], some (.cells [.i r_7.1.Name, .i r_7.1.A, .i r_7.1.B, .b r_7.1.Mod] 0))]⟩, vb r_7.2] <| Rk <| Runs.ret <| kS_ret ?_
        cases h
        exact Fq
       | false =>
        replace h := ite_f hb_7 h
        refine Cf <| Runs.skip <| kS_nrm <| Sq <| Ro <| Rc 4 [vy op_, vy (IntKind.wrap .u8 (op_ - 170)), vi (IntKind.wrap .i64 (IntKind.wrap .u8 (op_ - 170))), vi (IntKind.wrap .i64 (50 + (IntKind.wrap .i64 (IntKind.wrap .u8 (op_ - 170)))))] ?_
        obtain ⟨r_8, hr_8, h⟩ := bind_s h
        have hc_8 := isa_row_L (IntKind.wrap .i64 (50 + (IntKind.wrap .i64 (IntKind.wrap .u8 (op_ - 170))))) 0 0 r_8 hr_8
        refine Rt (some 48) (.callf 38) [] none [.i (IntKind.wrap .i64 (50 + (IntKind.wrap .i64 (IntKind.wrap .u8 (op_ - 170))))), .i 0, .i 0] (.tup [.d (Row.d r_8.1), .b r_8.2]) [] (cc hc_8) <| Rc 4 [⟨.d (Row.d r_8.1), []⟩, vb r_8.2, ⟨.tup [], [([2], some (.cells [.i r_8.1.Name, .i r_8.1.A, .i r_8.1.B, .b r_8.1.Mod] 0))]⟩, vb r_8.2] <| Rk <| Runs.ret ?_
        cases h
        exact Fq
theorem isa_texts_L (op_ : Int) (r : (Row × Bool)) (h : isa_texts op_ = some r) : L0 42 [.y op_] = some (.tup [.d (Row.d r.1), .b r.2], [.y op_]) := by
 obtain ⟨p, ⟨hne, hf⟩, hr⟩ := isa_texts_ok op_ r h
 obtain ⟨k, hk⟩ := run_of (F := F42) (args := [.y op_]) (ap := [.y op_]) (bx0 := updW (fun _ => none) []) rfl rfl (by kernel_rfl) ⟨p, ⟨hne, hf⟩, hr⟩
 exact lim_run (k := k) rfl hk
def isa_backs_Q (op_ : Int) (reg_ : Int) (r : (Row × Bool)) (p : Out × St) : Prop := (∀ i, p.1 ≠ .exit i) ∧ finF F43 [.y op_, .i reg_] p.2 = some (.tup [.d (Row.d r.1), .b r.2], [.y op_, .i reg_])
theorem isa_backs_ok (op_ : Int) (reg_ : Int) (r : (Row × Bool)) (h : isa_backs op_ reg_ = some r) : Runs L0 F43.body ⟨tmOf [.y op_, .i reg_] 0, updW (fun _ => none) []⟩ (isa_backs_Q op_ reg_ r) := by
 unfold isa_backs at h
 refine Sq <| Ro <| Rc 2 [⟨.ptr [4] 0 0, [([4], some (.cells [.i 0, .i 0, .i 0, .b false] 0))]⟩, vb false] <| Rk <| Sq <| Sq <| Ro <| Rc 1 [vy op_] <| Rk <| Runs.block <| Sq <| Ro <| Rc 2 [vb (op_ == 194), vb (op_ == 194)] <| Rk ?_
 cases hb_1 : ((op_ == 194) : Bool) with
 | true =>
  replace h := ite_t hb_1 h
  refine Ct <| Sq <| Ro ?_
  obtain ⟨r_1, hr_1, h⟩ := bind_s h
  have hc_1 := isa_row_L 56 7 0 r_1 hr_1
  refine Rt (some 9) (.callf 38) [] none [.i 56, .i 7, .i 0] (.tup [.d (Row.d r_1.1), .b r_1.2]) [] (cc hc_1) <| Rc 4 [⟨.d (Row.d r_1.1), []⟩, vb r_1.2, ⟨.tup [], [([4], some (.cells [.i r_1.1.Name, .i r_1.1.A, .i r_1.1.B, .b r_1.1.Mod] 0))]⟩, vb r_1.2] <| Rk <| Runs.ret <| kB_ret <| kS_ret ?_
  cases h
  exact Fq
 | false =>
  replace h := ite_f hb_1 h
  refine Cf <| Sq <| Ro <| Rc 2 [vb (op_ == 195), vb (op_ == 195)] <| Rk ?_
  cases hb_2 : ((op_ == 195) : Bool) with
  | true =>
   replace h := ite_t hb_2 h
   refine Ct <| Sq <| Ro ?_
   obtain ⟨r_2, hr_2, h⟩ := bind_s h
   have hc_2 := isa_row_L 56 0 0 r_2 hr_2
   refine Rt (some 14) (.callf 38) [] none [.i 56, .i 0, .i 0] (.tup [.d (Row.d r_2.1), .b r_2.2]) [] (cc hc_2) <| Rc 4 [⟨.d (Row.d r_2.1), []⟩, vb r_2.2, ⟨.tup [], [([4], some (.cells [.i r_2.1.Name, .i r_2.1.A, .i r_2.1.B, .b r_2.1.Mod] 0))]⟩, vb r_2.2] <| Rk <| Runs.ret <| kB_ret <| kS_ret ?_
   cases h
   exact Fq
  | false =>
   replace h := ite_f hb_2 h
   refine Cf <| Sq <| Ro <| Rc 2 [vb (op_ == 196), vb (op_ == 196)] <| Rk ?_
   cases hb_3 : ((op_ == 196) : Bool) with
   | true =>
    replace h := ite_t hb_3 h
    refine Ct <| Sq <| Ro ?_
    obtain ⟨r_3, hr_3, h⟩ := bind_s h
    have hc_3 := isa_mod_L 58 4 19 r_3 hr_3
    refine Rt (some 19) (.callf 67) [] none [.i 58, .i 4, .i 19] (.tup [.d (Row.d r_3.1), .b r_3.2]) [] (cc hc_3) <| Rc 4 [⟨.d (Row.d r_3.1), []⟩, vb r_3.2, ⟨.tup [], [([4], some (.cells [.i r_3.1.Name, .i r_3.1.A, .i r_3.1.B, .b r_3.1.Mod] 0))]⟩, vb r_3.2] <| Rk <| Runs.ret <| kB_ret <| kS_ret ?_
    cases h
    exact Fq
   | false =>
    replace h := ite_f hb_3 h
    refine Cf <| Sq <| Ro <| Rc 2 [vb (op_ == 197), vb (op_ == 197)] <| Rk ?_
    cases hb_4 : ((op_ == 197) : Bool) with
    | true =>
     replace h := ite_t hb_4 h
     refine Ct <| Sq <| Ro ?_
     obtain ⟨r_4, hr_4, h⟩ := bind_s h
     have hc_4 := isa_mod_L 59 4 19 r_4 hr_4
     refine Rt (some 24) (.callf 67) [] none [.i 59, .i 4, .i 19] (.tup [.d (Row.d r_4.1), .b r_4.2]) [] (cc hc_4) <| Rc 4 [⟨.d (Row.d r_4.1), []⟩, vb r_4.2, ⟨.tup [], [([4], some (.cells [.i r_4.1.Name, .i r_4.1.A, .i r_4.1.B, .b r_4.1.Mod] 0))]⟩, vb r_4.2] <| Rk <| Runs.ret <| kB_ret <| kS_ret ?_
     cases h
     exact Fq
    | false =>
     replace h := ite_f hb_4 h
     refine Cf <| Sq <| Ro <| Rc 2 [vb (op_ == 198), vb (op_ == 198)] <| Rk ?_
     cases hb_5 : ((op_ == 198) : Bool) with
     | true =>
      replace h := ite_t hb_5 h
      refine Ct <| Sq <| Ro <| Rc 2 [vi reg_, vb (reg_ == 0)] <| Rk ?_
      cases hb_6 : ((reg_ == 0) : Bool) with
      | true =>
       replace h := ite_t hb_6 h
       refine Ct <| Sq <| Ro ?_
       obtain ⟨r_5, hr_5, h⟩ := bind_s h
       have hc_5 := isa_mod_L 35 1 6 r_5 hr_5
       refine Rt (some 31) (.callf 67) [] none [.i 35, .i 1, .i 6] (.tup [.d (Row.d r_5.1), .b r_5.2]) [] (cc hc_5) <| Rc 4 [⟨.d (Row.d r_5.1), []⟩, vb r_5.2, ⟨.tup [], [([4], some (.cells [.i r_5.1.Name, .i r_5.1.A, .i r_5.1.B, .b r_5.1.Mod] 0))]⟩, vb r_5.2] <| Rk <| Runs.ret <| kB_ret <| kS_ret ?_
       cases h
       exact Fq
      | false =>
       replace h := ite_f hb_6 h
       refine Cf <| Runs.skip <| kB_nrm <| kS_nrm <| Sq <| Ro ?_
       obtain ⟨r_6, hr_6, h⟩ := bind_s h
       have hc_6 := isa_bad_L r_6 hr_6
       refine Rt (some 71) (.callf 39) [] none [] (.tup [.d (Row.d r_6.1), .b r_6.2]) [] (cc hc_6) <| Rc 4 [⟨.d (Row.d r_6.1), []⟩, vb r_6.2, ⟨.tup [], [([4], some (.cells [.i r_6.1.Name, .i r_6.1.A, .i r_6.1.B, .b r_6.1.Mod] 0))]⟩, vb r_6.2] <| Rk <| Runs.ret ?_
       cases h
       exact Fq
     | false =>
      replace h := ite_f hb_5 h
      refine Cf <| Sq <| Ro <| Rc 2 [vb (op_ == 199), vb (op_ == 199)] <| Rk ?_
      cases hb_7 : ((op_ == 199) : Bool) with
      | true =>
       replace h := ite_t hb_7 h
       refine Ct <| Sq <| Ro <| Rc 2 [vi reg_, vb (reg_ == 0)] <| Rk ?_
       cases hb_8 : ((reg_ == 0) : Bool) with
       | true =>
        replace h := ite_t hb_8 h
        refine Ct <| Sq <| Ro ?_
        obtain ⟨r_7, hr_7, h⟩ := bind_s h
        have hc_7 := isa_mod_L 35 2 7 r_7 hr_7
        refine Rt (some 38) (.callf 67) [] none [.i 35, .i 2, .i 7] (.tup [.d (Row.d r_7.1), .b r_7.2]) [] (cc hc_7) <| Rc 4 [⟨.d (Row.d r_7.1), []⟩, vb r_7.2, ⟨.tup [], [([4], some (.cells [.i r_7.1.Name, .i r_7.1.A, .i r_7.1.B, .b r_7.1.Mod] 0))]⟩, vb r_7.2] <| Rk <| Runs.ret <| kB_ret <| kS_ret ?_
        cases h
        exact Fq
       | false =>
        replace h := ite_f hb_8 h
        refine Cf <| Runs.skip <| kB_nrm <| kS_nrm <| Sq <| Ro ?_
        obtain ⟨r_8, hr_8, h⟩ := bind_s h
        have hc_8 := isa_bad_L r_8 hr_8
        refine Rt (some 71) (.callf 39) [] none [] (.tup [.d (Row.d r_8.1), .b r_8.2]) [] (cc hc_8) <| Rc 4 [⟨.d (Row.d r_8.1), []⟩, vb r_8.2, ⟨.tup [], [([4], some (.cells [.i r_8.1.Name, .i r_8.1.A, .i r_8.1.B, .b r_8.1.Mod] 0))]⟩, vb r_8.2] <| Rk <| Runs.ret ?_
        cases h
        exact Fq
      | false =>
       replace h := ite_f hb_7 h
       refine Cf <| Sq <| Ro <| Rc 2 [vb (op_ == 202), vb (op_ == 202)] <| Rk ?_
       cases hb_9 : ((op_ == 202) : Bool) with
       | true =>
        replace h := ite_t hb_9 h
        refine Ct <| Sq <| Ro ?_
        obtain ⟨r_9, hr_9, h⟩ := bind_s h
        have hc_9 := isa_row_L 57 7 0 r_9 hr_9
        refine Rt (some 43) (.callf 38) [] none [.i 57, .i 7, .i 0] (.tup [.d (Row.d r_9.1), .b r_9.2]) [] (cc hc_9) <| Rc 4 [⟨.d (Row.d r_9.1), []⟩, vb r_9.2, ⟨.tup [], [([4], some (.cells [.i r_9.1.Name, .i r_9.1.A, .i r_9.1.B, .b r_9.1.Mod] 0))]⟩, vb r_9.2] <| Rk <| Runs.ret <| kB_ret <| kS_ret ?_
        cases h
        exact Fq
       | false =>
        replace h := ite_f hb_9 h
        refine Cf <| Sq <| Ro <| Rc 2 [vb (op_ == 203), vb (op_ == 203)] <| Rk ?_
        cases hb_10 : ((op_ == 203) : Bool) with
        | true =>
         replace h := ite_t hb_10 h
         refine Ct <| Sq <| Ro ?_
         obtain ⟨r_10, hr_10, h⟩ := bind_s h
         have hc_10 := isa_row_L 57 0 0 r_10 hr_10
         refine Rt (some 48) (.callf 38) [] none [.i 57, .i 0, .i 0] (.tup [.d (Row.d r_10.1), .b r_10.2]) [] (cc hc_10) <| Rc 4 [⟨.d (Row.d r_10.1), []⟩, vb r_10.2, ⟨.tup [], [([4], some (.cells [.i r_10.1.Name, .i r_10.1.A, .i r_10.1.B, .b r_10.1.Mod] 0))]⟩, vb r_10.2] <| Rk <| Runs.ret <| kB_ret <| kS_ret ?_
         cases h
         exact Fq
        | false =>
         replace h := ite_f hb_10 h
         refine Cf <| Sq <| Ro <| Rc 2 [vb (op_ == 204), vb (op_ == 204)] <| Rk ?_
         cases hb_11 : ((op_ == 204) : Bool) with
         | true =>
          replace h := ite_t hb_11 h
          refine Ct <| Sq <| Ro ?_
          obtain ⟨r_11, hr_11, h⟩ := bind_s h
          have hc_11 := isa_row_L 60 24 0 r_11 hr_11
          refine Rt (some 53) (.callf 38) [] none [.i 60, .i 24, .i 0] (.tup [.d (Row.d r_11.1), .b r_11.2]) [] (cc hc_11) <| Rc 4 [⟨.d (Row.d r_11.1), []⟩, vb r_11.2, ⟨.tup [], [([4], some (.cells [.i r_11.1.Name, .i r_11.1.A, .i r_11.1.B, .b r_11.1.Mod] 0))]⟩, vb r_11.2] <| Rk <| Runs.ret <| kB_ret <| kS_ret ?_
          cases h
          exact Fq
         | false =>
          replace h := ite_f hb_11 h
          refine Cf <| Sq <| Ro <| Rc 2 [vb (op_ == 205), vb (op_ == 205)] <| Rk ?_
          cases hb_12 : ((op_ == 205) : Bool) with
          | true =>
           replace h := ite_t hb_12 h
           refine Ct <| Sq <| Ro ?_
           obtain ⟨r_12, hr_12, h⟩ := bind_s h
           have hc_12 := isa_row_L 60 6 0 r_12 hr_12
           refine Rt (some 58) (.callf 38) [] none [.i 60, .i 6, .i 0] (.tup [.d (Row.d r_12.1), .b r_12.2]) [] (cc hc_12) <| Rc 4 [⟨.d (Row.d r_12.1), []⟩, vb r_12.2, ⟨.tup [], [([4], some (.cells [.i r_12.1.Name, .i r_12.1.A, .i r_12.1.B, .b r_12.1.Mod] 0))]⟩, vb r_12.2] <| Rk <| Runs.ret <| kB_ret <| kS_ret ?_
           cases h
           exact Fq
          | false =>
           replace h := ite_f hb_12 h
           refine Cf <| Sq <| Ro <| Rc 2 [vb (op_ == 206), vb (op_ == 206)] <| Rk ?_
           cases hb_13 : ((op_ == 206) : Bool) with
           | true =>
            replace h := ite_t hb_13 h
            refine Ct <| Sq <| Ro ?_
            obtain ⟨r_13, hr_13, h⟩ := bind_s h
            have hc_13 := isa_row_L 61 0 0 r_13 hr_13
            refine Rt (some 63) (.callf 38) [] none [.i 61, .i 0, .i 0] (.tup [.d (Row.d r_13.1), .b r_13.2]) [] (cc hc_13) <| Rc 4 [⟨.d (Row.d r_13.1), []⟩, vb r_13.2, ⟨.tup [], [([4], some (.cells [.i r_13.1.Name, .i r_13.1.A, .i r_13.1.B, .b r_13.1.Mod] 0))]⟩, vb r_13.2] <| Rk <| Runs.ret <| kB_ret <| kS_ret ?_
            cases h
            exact Fq
           | false =>
            replace h := ite_f hb_13 h
            refine Cf <| Sq <| Ro <| Rc 2 [vb (op_ == 207), vb (op_ == 207)] <| Rk ?_
            cases hb_14 : ((op_ == 207) : Bool) with
            | true =>
             replace h := ite_t hb_14 h
             refine Ct <| Sq <| Ro ?_
             obtain ⟨r_14, hr_14, h⟩ := bind_s h
             have hc_14 := isa_row_L 62 0 0 r_14 hr_14
             refine Rt (some 68) (.callf 38) [] none [.i 62, .i 0, .i 0] (.tup [.d (Row.d r_14.1), .b r_14.2]) [] (cc hc_14) <| Rc 4 [⟨.d (Row.d r_14.1), []⟩, vb r_14.2, ⟨.tup [], [([4], some (.cells [.i r_14.1.Name, .i r_14.1.A, .i r_14.1.B, .b r_14.1.Mod] 0))]⟩, vb r_14.2] <| Rk <| Runs.ret <| kB_ret <| kS_ret ?_
             cases h
             exact Fq
            | false =>
             replace h := ite_f hb_14 h
             refine Cf <| Runs.skip <| kB_nrm <| kS_nrm <| Sq <| Ro ?_
             obtain ⟨r_15, hr_15, h⟩ := bind_s h
             have hc_15 := isa_bad_L r_15 hr_15
             refine Rt (some 71) (.callf 39) [] none [] (.tup [.d (Row.d r_15.1), .b r_15.2]) [] (cc hc_15) <| Rc 4 [⟨.d (Row.d r_15.1), []⟩, vb r_15.2, ⟨.tup [], [([4], some (.cells [.i r_15.1.Name, .i r_15.1.A, .i r_15.1.B, .b r_15.1.Mod] 0))]⟩, vb r_15.2] <| Rk <| Runs.ret ?_
             cases h
             exact Fq
theorem isa_backs_L (op_ : Int) (reg_ : Int) (r : (Row × Bool)) (h : isa_backs op_ reg_ = some r) : L0 43 [.y op_, .i reg_] = some (.tup [.d (Row.d r.1), .b r.2], [.y op_, .i reg_]) := by
 obtain ⟨p, ⟨hne, hf⟩, hr⟩ := isa_backs_ok op_ reg_ r h
 obtain ⟨k, hk⟩ := run_of (F := F43) (args := [.y op_, .i reg_]) (ap := [.y op_, .i reg_]) (bx0 := updW (fun _ => none) []) rfl rfl (by kernel_rfl) ⟨p, ⟨hne, hf⟩, hr⟩
 exact lim_run (k := k) rfl hk
def isa_turns_Q (op_ : Int) (reg_ : Int) (r : (Row × Bool)) (p : Out × St) : Prop := (∀ i, p.1 ≠ .exit i) ∧ finF F44 [.y op_, .i reg_] p.2 = some (.tup [.d (Row.d r.1), .b r.2], [.y op_, .i reg_])
theorem isa_turns_ok (op_ : Int) (reg_ : Int) (r : (Row × Bool)) (h : isa_turns op_ reg_ = some r) : Runs L0 F44.body ⟨tmOf [.y op_, .i reg_] 0, updW (fun _ => none) []⟩ (isa_turns_Q op_ reg_ r) := by
 unfold isa_turns at h
 refine Sq <| Ro <| Rc 2 [⟨.ptr [4] 0 0, [([4], some (.cells [.i 0, .i 0, .i 0, .b false] 0))]⟩, vb false] <| Rk <| Sq <| Sq <| Ro <| Rc 2 [vy op_, vb (decide (op_ < 212))] <| Rk ?_
 cases hb_1 : ((decide (op_ < 212)) : Bool) with
 | true =>
  replace h := ite_t hb_1 h
  refine Ct <| Sq <| Sq <| Ro <| Rc 2 [vi reg_, vb (reg_ == 6)] <| Rk ?_
  cases hb_2 : ((reg_ == 6) : Bool) with
  | true =>
   replace h := ite_t hb_2 h
   refine Ct <| Sq <| Ro ?_
   obtain ⟨r_1, hr_1, h⟩ := bind_s h
   have hc_1 := isa_bad_L r_1 hr_1
   refine Rt (some 13) (.callf 39) [] none [] (.tup [.d (Row.d r_1.1), .b r_1.2]) [] (cc hc_1) <| Rc 4 [⟨.d (Row.d r_1.1), []⟩, vb r_1.2, ⟨.tup [], [([4], some (.cells [.i r_1.1.Name, .i r_1.1.A, .i r_1.1.B, .b r_1.1.Mod] 0))]⟩, vb r_1.2] <| Rk <| Runs.ret <| kS_ret <| kS_ret ?_
   cases h
   exact Fq
  | false =>
   replace h := ite_f hb_2 h
   refine Cf <| Runs.skip <| kS_nrm <| Sq <| Ro <| Rc 2 [⟨.ref [16] 0 0 (List.map (D.int .i64) ([63, 64, 65, 66, 67, 68, 0, 69] : List Int)).length 1, [([16], some (.arr (List.map (D.int .i64) ([63, 64, 65, 66, 67, 68, 0, 69] : List Int)) 0 false))]⟩, vi reg_] ?_
   obtain ⟨z_1, hz_1, h⟩ := bind_s h
   refine Rt (some 18) (.iaddrS 1) [] none [.ref [16] 0 0 (List.map (D.int .i64) ([63, 64, 65, 66, 67, 68, 0, 69] : List Int)).length 1, .i reg_] (.eref [16] 0 (0 + (reg_).toNat) 0) [] (cut_atR (e := (D.int .i64)) (l := ([63, 64, 65, 66, 67, 68, 0, 69] : List Int)) hz_1 rfl) <| Rt (some 19) (.load none) [] none [.eref [16] 0 (0 + (reg_).toNat) 0] (.i z_1) [] (cut_loadR (e := (D.int .i64)) (l := ([63, 64, 65, 66, 67, 68, 0, 69] : List Int)) (fz := false) (y := z_1) (by kernel_rfl) hz_1 (by kernel_rfl) (by kernel_rfl)) <| Rc 1 [vi z_1] <| Rk <| Sq <| Ro <| Rc 2 [vi 1, vi 18] <| Rk <| Sq <| Sq <| Ro <| Rc 3 [vy op_, vy (bitsOp .and .u8 op_ 1), vb ((bitsOp .and .u8 op_ 1) == 1)] <| Rk ?_
   cases hb_3 : (((bitsOp .and .u8 op_ 1) == 1) : Bool) with
   | true =>
    replace h := ite_t hb_3 h
    refine Ct <| Ro <| Rc 1 [vi 2] <| Rk <| Sq <| Sq <| Ro <| Rc 3 [vy op_, vy (bitsOp .and .u8 op_ 2), vb ((bitsOp .and .u8 op_ 2) != 0)] <| Rk ?_
    cases hb_4 : (((bitsOp .and .u8 op_ 2) != 0) : Bool) with
    | true =>
     replace h := ite_t hb_4 h
     refine Ct <| Ro <| Rc 1 [vi 15] <| Rk <| Sq <| Ro <| Rc 3 [vi z_1, vi 2, vi 15] ?_
     obtain ⟨r_2, hr_2, h⟩ := bind_s h
     have hc_2 := isa_mod_L z_1 2 15 r_2 hr_2
     refine Rt (some 29) (.callf 67) [] none [.i z_1, .i 2, .i 15] (.tup [.d (Row.d r_2.1), .b r_2.2]) [] (cc hc_2) <| Rc 4 [⟨.d (Row.d r_2.1), []⟩, vb r_2.2, ⟨.tup [], [([4], some (.cells [.i r_2.1.Name, .i r_2.1.A, .i r_2.1.B, .b r_2.1.Mod] 0))]⟩, vb r_2.2] <| Rk <| Runs.ret <| kS_ret ?_
     cases h
     exact Fq
    | false =>
     replace h := ite_f hb_4 h
     refine Cf <| Runs.skip <| kS_nrm <| Sq <| Ro <| Rc 3 [vi z_1, vi 2, vi 18] ?_
     obtain ⟨r_3, hr_3, h⟩ := bind_s h
     have hc_3 := isa_mod_L z_1 2 18 r_3 hr_3
     refine Rt (some 29) (.callf 67) [] none [.i z_1, .i 2, .i 18] (.tup [.d (Row.d r_3.1), .b r_3.2]) [] (cc hc_3) <| Rc 4 [⟨.d (Row.d r_3.1), []⟩, vb r_3.2, ⟨.tup [], [([4], some (.cells [.i r_3.1.Name, .i r_3.1.A, .i r_3.1.B, .b r_3.1.Mod] 0))]⟩, vb r_3.2] <| Rk <| Runs.ret <| kS_ret ?_
     cases h
     exact Fq
   | false =>
    replace h := ite_f hb_3 h
    refine Cf <| Runs.skip <| kS_nrm <| Sq <| Sq <| Ro <| Rc 3 [vy op_, vy (bitsOp .and .u8 op_ 2), vb ((bitsOp .and .u8 op_ 2) != 0)] <| Rk ?_
    cases hb_5 : (((bitsOp .and .u8 op_ 2) != 0) : Bool) with
    | true =>
     replace h := ite_t hb_5 h
     refine Ct <| Ro <| Rc 1 [vi 15] <| Rk <| Sq <| Ro <| Rc 3 [vi z_1, vi 1, vi 15] ?_
     obtain ⟨r_4, hr_4, h⟩ := bind_s h
     have hc_4 := isa_mod_L z_1 1 15 r_4 hr_4
     refine Rt (some 29) (.callf 67) [] none [.i z_1, .i 1, .i 15] (.tup [.d (Row.d r_4.1), .b r_4.2]) [] (cc hc_4) <| Rc 4 [⟨.d (Row.d r_4.1), []⟩, vb r_4.2, ⟨.tup [], [([4], some (.cells [.i r_4.1.Name, .i r_4.1.A, .i r_4.1.B, .b r_4.1.Mod] 0))]⟩, vb r_4.2] <| Rk <| Runs.ret <| kS_ret ?_
     cases h
     exact Fq
    | false =>
     replace h := ite_f hb_5 h
     refine Cf <| Runs.skip <| kS_nrm <| Sq <| Ro <| Rc 3 [vi z_1, vi 1, vi 18] ?_
     obtain ⟨r_5, hr_5, h⟩ := bind_s h
     have hc_5 := isa_mod_L z_1 1 18 r_5 hr_5
     refine Rt (some 29) (.callf 67) [] none [.i z_1, .i 1, .i 18] (.tup [.d (Row.d r_5.1), .b r_5.2]) [] (cc hc_5) <| Rc 4 [⟨.d (Row.d r_5.1), []⟩, vb r_5.2, ⟨.tup [], [([4], some (.cells [.i r_5.1.Name, .i r_5.1.A, .i r_5.1.B, .b r_5.1.Mod] 0))]⟩, vb r_5.2] <| Rk <| Runs.ret <| kS_ret ?_
     cases h
     exact Fq
 | false =>
  replace h := ite_f hb_1 h
  refine Cf <| Runs.skip <| kS_nrm <| Sq <| Runs.block <| Sq <| Ro <| Rc 3 [vy op_, vb (op_ == 212), vb (op_ == 212)] <| Rk ?_
  cases hb_6 : ((op_ == 212) : Bool) with
  | true =>
   replace h := ite_t hb_6 h
   refine Ct <| Sq <| Ro ?_
   obtain ⟨r_6, hr_6, h⟩ := bind_s h
   have hc_6 := isa_row_L 70 6 0 r_6 hr_6
   refine Rt (some 35) (.callf 38) [] none [.i 70, .i 6, .i 0] (.tup [.d (Row.d r_6.1), .b r_6.2]) [] (cc hc_6) <| Rc 4 [⟨.d (Row.d r_6.1), []⟩, vb r_6.2, ⟨.tup [], [([4], some (.cells [.i r_6.1.Name, .i r_6.1.A, .i r_6.1.B, .b r_6.1.Mod] 0))]⟩, vb r_6.2] <| Rk <| Runs.ret <| kB_ret <| kS_ret ?_
   cases h
   exact Fq
  | false =>
   replace h := ite_f hb_6 h
   refine Cf <| Sq <| Ro <| Rc 3 [vy op_, vb (op_ == 213), vb (op_ == 213)] <| Rk ?_
   cases hb_7 : ((op_ == 213) : Bool) with
   | true =>
    replace h := ite_t hb_7 h
    refine Ct <| Sq <| Ro ?_
    obtain ⟨r_7, hr_7, h⟩ := bind_s h
    have hc_7 := isa_row_L 71 6 0 r_7 hr_7
    refine Rt (some 41) (.callf 38) [] none [.i 71, .i 6, .i 0] (.tup [.d (Row.d r_7.1), .b r_7.2]) [] (cc hc_7) <| Rc 4 [⟨.d (Row.d r_7.1), []⟩, vb r_7.2, ⟨.tup [], [([4], some (.cells [.i r_7.1.Name, .i r_7.1.A, .i r_7.1.B, .b r_7.1.Mod] 0))]⟩, vb r_7.2] <| Rk <| Runs.ret <| kB_ret <| kS_ret ?_
    cases h
    exact Fq
   | false =>
    replace h := ite_f hb_7 h
    refine Cf <| Sq <| Ro <| Rc 3 [vy op_, vb (op_ == 215), vb (op_ == 215)] <| Rk ?_
    cases hb_8 : ((op_ == 215) : Bool) with
    | true =>
     replace h := ite_t hb_8 h
     refine Ct <| Sq <| Ro ?_
     obtain ⟨r_8, hr_8, h⟩ := bind_s h
     have hc_8 := isa_row_L 72 0 0 r_8 hr_8
     refine Rt (some 47) (.callf 38) [] none [.i 72, .i 0, .i 0] (.tup [.d (Row.d r_8.1), .b r_8.2]) [] (cc hc_8) <| Rc 4 [⟨.d (Row.d r_8.1), []⟩, vb r_8.2, ⟨.tup [], [([4], some (.cells [.i r_8.1.Name, .i r_8.1.A, .i r_8.1.B, .b r_8.1.Mod] 0))]⟩, vb r_8.2] <| Rk <| Runs.ret <| kB_ret <| kS_ret ?_
     cases h
     exact Fq
    | false =>
     replace h := ite_f hb_8 h
     refine Cf <| Sq <| Ro <| Rc 3 [vy op_, vb (decide (op_ ≥ 216)), vb (decide (op_ ≥ 216))] <| Rk ?_
     cases hb_9 : ((decide (op_ ≥ 216)) : Bool) with
     | true =>
      replace h := ite_t hb_9 h
      refine Ct <| Sq <| Ro ?_
      obtain ⟨r_9, hr_9, h⟩ := bind_s h
      have hc_9 := isa_mod_L 73 2 0 r_9 hr_9
      refine Rt (some 53) (.callf 67) [] none [.i 73, .i 2, .i 0] (.tup [.d (Row.d r_9.1), .b r_9.2]) [] (cc hc_9) <| Rc 4 [⟨.d (Row.d r_9.1), []⟩, vb r_9.2, ⟨.tup [], [([4], some (.cells [.i r_9.1.Name, .i r_9.1.A, .i r_9.1.B, .b r_9.1.Mod] 0))]⟩, vb r_9.2] <| Rk <| Runs.ret <| kB_ret <| kS_ret ?_
      cases h
      exact Fq
     | false =>
      replace h := ite_f hb_9 h
      refine Cf <| Runs.skip <| kB_nrm <| kS_nrm <| Sq <| Ro ?_
      obtain ⟨r_10, hr_10, h⟩ := bind_s h
      have hc_10 := isa_bad_L r_10 hr_10
      refine Rt (some 56) (.callf 39) [] none [] (.tup [.d (Row.d r_10.1), .b r_10.2]) [] (cc hc_10) <| Rc 4 [⟨.d (Row.d r_10.1), []⟩, vb r_10.2, ⟨.tup [], [([4], some (.cells [.i r_10.1.Name, .i r_10.1.A, .i r_10.1.B, .b r_10.1.Mod] 0))]⟩, vb r_10.2] <| Rk <| Runs.ret ?_
      cases h
      exact Fq
theorem isa_turns_L (op_ : Int) (reg_ : Int) (r : (Row × Bool)) (h : isa_turns op_ reg_ = some r) : L0 44 [.y op_, .i reg_] = some (.tup [.d (Row.d r.1), .b r.2], [.y op_, .i reg_]) := by
 obtain ⟨p, ⟨hne, hf⟩, hr⟩ := isa_turns_ok op_ reg_ r h
 obtain ⟨k, hk⟩ := run_of (F := F44) (args := [.y op_, .i reg_]) (ap := [.y op_, .i reg_]) (bx0 := updW (fun _ => none) []) rfl rfl (by kernel_rfl) ⟨p, ⟨hne, hf⟩, hr⟩
 exact lim_run (k := k) rfl hk
def isa_goes_h20 (b_2 : Row) (op0 : Int) (t4 : Int) (t5 : Bool) : St := ⟨tab [(0, .y op0), (2, .ptr [2] 0 0), (4, .y t4), (5, .b t5)], tabB [([2], some (.cells [.i b_2.Name, .i b_2.A, .i b_2.B, .b b_2.Mod] 0))]⟩
def isa_goes_Q (op_ : Int) (r : (Row × Bool)) (p : Out × St) : Prop := (∀ i, p.1 ≠ .exit i) ∧ finF F45 [.y op_] p.2 = some (.tup [.d (Row.d r.1), .b r.2], [.y op_])
theorem isa_goes_j20_ok (op_ : Int) (b_2 : Row) (op0 : Int) (t4 : Int) (t5 : Bool) (r : (Row × Bool)) (h : isa_goes_j20 b_2 op0 t4 t5 = some r) : Runs L0 F45b20 (isa_goes_h20 b_2 op0 t4 t5) (kB 0 (kS L0 F45c91 (isa_goes_Q op_ r))) := by
 unfold isa_goes_j20 at h
 cases hb_2 : (t5 : Bool) with
 | true =>
  replace h := ite_t hb_2 h
  refine Ct <| Sq <| Ro <| Rc 4 [vy op0, vy (IntKind.wrap .u8 (op0 - 224)), vi (IntKind.wrap .i64 (IntKind.wrap .u8 (op0 - 224))), vi (IntKind.wrap .i64 (74 + (IntKind.wrap .i64 (IntKind.wrap .u8 (op0 - 224)))))] ?_
  obtain ⟨r_1, hr_1, h⟩ := bind_s h
  have hc_1 := isa_row_L (IntKind.wrap .i64 (74 + (IntKind.wrap .i64 (IntKind.wrap .u8 (op0 - 224))))) 9 0 r_1 hr_1
  refine Rt (some 14) (.callf 38) [] none [.i (IntKind.wrap .i64 (74 + (IntKind.wrap .i64 (IntKind.wrap .u8 (op0 - 224))))), .i 9, .i 0] (.tup [.d (Row.d r_1.1), .b r_1.2]) [] (cc hc_1) <| Rc 4 [⟨.d (Row.d r_1.1), []⟩, vb r_1.2, ⟨.tup [], [([2], some (.cells [.i r_1.1.Name, .i r_1.1.A, .i r_1.1.B, .b r_1.1.Mod] 0))]⟩, vb r_1.2] <| Rk <| Runs.ret <| kB_ret <| kS_ret ?_
  cases h
  exact Fq
 | false =>
  replace h := ite_f hb_2 h
  refine Cf <| Sq <| Ro <| Rc 2 [vb (t4 == 228), vb (t4 == 228)] <| Rk ?_
  cases hb_3 : ((t4 == 228) : Bool) with
  | true =>
   replace h := ite_t hb_3 h
   refine Ct <| Sq <| Ro ?_
   obtain ⟨r_2, hr_2, h⟩ := bind_s h
   have hc_2 := isa_row_L 78 14 6 r_2 hr_2
   refine Rt (some 19) (.callf 38) [] none [.i 78, .i 14, .i 6] (.tup [.d (Row.d r_2.1), .b r_2.2]) [] (cc hc_2) <| Rc 4 [⟨.d (Row.d r_2.1), []⟩, vb r_2.2, ⟨.tup [], [([2], some (.cells [.i r_2.1.Name, .i r_2.1.A, .i r_2.1.B, .b r_2.1.Mod] 0))]⟩, vb r_2.2] <| Rk <| Runs.ret <| kB_ret <| kS_ret ?_
   cases h
   exact Fq
  | false =>
   replace h := ite_f hb_3 h
   refine Cf <| Sq <| Ro <| Rc 2 [vb (t4 == 229), vb (t4 == 229)] <| Rk ?_
   cases hb_4 : ((t4 == 229) : Bool) with
   | true =>
    replace h := ite_t hb_4 h
    refine Ct <| Sq <| Ro ?_
    obtain ⟨r_3, hr_3, h⟩ := bind_s h
    have hc_3 := isa_row_L 78 16 6 r_3 hr_3
    refine Rt (some 24) (.callf 38) [] none [.i 78, .i 16, .i 6] (.tup [.d (Row.d r_3.1), .b r_3.2]) [] (cc hc_3) <| Rc 4 [⟨.d (Row.d r_3.1), []⟩, vb r_3.2, ⟨.tup [], [([2], some (.cells [.i r_3.1.Name, .i r_3.1.A, .i r_3.1.B, .b r_3.1.Mod] 0))]⟩, vb r_3.2] <| Rk <| Runs.ret <| kB_ret <| kS_ret ?_
    cases h
    exact Fq
   | false =>
    replace h := ite_f hb_4 h
    refine Cf <| Sq <| Ro <| Rc 2 [vb (t4 == 230), vb (t4 == 230)] <| Rk ?_
    cases hb_5 : ((t4 == 230) : Bool) with
    | true =>
     replace h := ite_t hb_5 h
     refine Ct <| Sq <| Ro ?_
     obtain ⟨r_4, hr_4, h⟩ := bind_s h
     have hc_4 := isa_row_L 79 6 14 r_4 hr_4
     refine Rt (some 29) (.callf 38) [] none [.i 79, .i 6, .i 14] (.tup [.d (Row.d r_4.1), .b r_4.2]) [] (cc hc_4) <| Rc 4 [⟨.d (Row.d r_4.1), []⟩, vb r_4.2, ⟨.tup [], [([2], some (.cells [.i r_4.1.Name, .i r_4.1.A, .i r_4.1.B, .b r_4.1.Mod] 0))]⟩, vb r_4.2] <| Rk <| Runs.ret <| kB_ret <| kS_ret ?_
     cases h
     exact Fq
    | false =>
     replace h := ite_f hb_5 h
     refine Cf <| Sq <| Ro <| Rc 2 [vb (t4 == 231), vb (t4 == 231)] <| Rk ?_
     cases hb_6 : ((t4 == 231) : Bool) with
     | true =>
      replace h := ite_t hb_6 h
      refine Ct <| Sq <| Ro ?_
      obtain ⟨r_5, hr_5, h⟩ := bind_s h
      have hc_5 := isa_row_L 79 6 16 r_5 hr_5
      refine Rt (some 34) (.callf 38) [] none [.i 79, .i 6, .i 16] (.tup [.d (Row.d r_5.1), .b r_5.2]) [] (cc hc_5) <| Rc 4 [⟨.d (Row.d r_5.1), []⟩, vb r_5.2, ⟨.tup [], [([2], some (.cells [.i r_5.1.Name, .i r_5.1.A, .i r_5.1.B, .b r_5.1.Mod] 0))]⟩, vb r_5.2] <| Rk <| Runs.ret <| kB_ret <| kS_ret ?_
      cases h
      exact Fq
     | false =>
      replace h := ite_f hb_6 h
      refine Cf <| Sq <| Ro <| Rc 2 [vb (t4 == 232), vb (t4 == 232)] <| Rk ?_
      cases hb_7 : ((t4 == 232) : Bool) with
      | true =>
       replace h := ite_t hb_7 h
       refine Ct <| Sq <| Ro ?_
       obtain ⟨r_6, hr_6, h⟩ := bind_s h
       have hc_6 := isa_row_L 39 10 0 r_6 hr_6
       refine Rt (some 39) (.callf 38) [] none [.i 39, .i 10, .i 0] (.tup [.d (Row.d r_6.1), .b r_6.2]) [] (cc hc_6) <| Rc 4 [⟨.d (Row.d r_6.1), []⟩, vb r_6.2, ⟨.tup [], [([2], some (.cells [.i r_6.1.Name, .i r_6.1.A, .i r_6.1.B, .b r_6.1.Mod] 0))]⟩, vb r_6.2] <| Rk <| Runs.ret <| kB_ret <| kS_ret ?_
       cases h
       exact Fq
      | false =>
       replace h := ite_f hb_7 h
       refine Cf <| Sq <| Ro <| Rc 2 [vb (t4 == 233), vb (t4 == 233)] <| Rk ?_
       cases hb_8 : ((t4 == 233) : Bool) with
       | true =>
        replace h := ite_t hb_8 h
        refine Ct <| Sq <| Ro ?_
        obtain ⟨r_7, hr_7, h⟩ := bind_s h
        have hc_7 := isa_row_L 80 10 0 r_7 hr_7
        refine Rt (some 44) (.callf 38) [] none [.i 80, .i 10, .i 0] (.tup [.d (Row.d r_7.1), .b r_7.2]) [] (cc hc_7) <| Rc 4 [⟨.d (Row.d r_7.1), []⟩, vb r_7.2, ⟨.tup [], [([2], some (.cells [.i r_7.1.Name, .i r_7.1.A, .i r_7.1.B, .b r_7.1.Mod] 0))]⟩, vb r_7.2] <| Rk <| Runs.ret <| kB_ret <| kS_ret ?_
        cases h
        exact Fq
       | false =>
        replace h := ite_f hb_8 h
        refine Cf <| Sq <| Ro <| Rc 2 [vb (t4 == 234), vb (t4 == 234)] <| Rk ?_
        cases hb_9 : ((t4 == 234) : Bool) with
        | true =>
         replace h := ite_t hb_9 h
         refine Ct <| Sq <| Ro ?_
         obtain ⟨r_8, hr_8, h⟩ := bind_s h
         have hc_8 := isa_row_L 81 11 0 r_8 hr_8
         refine Rt (some 49) (.callf 38) [] none [.i 81, .i 11, .i 0] (.tup [.d (Row.d r_8.1), .b r_8.2]) [] (cc hc_8) <| Rc 4 [⟨.d (Row.d r_8.1), []⟩, vb r_8.2, ⟨.tup [], [([2], some (.cells [.i r_8.1.Name, .i r_8.1.A, .i r_8.1.B, .b r_8.1.Mod] 0))]⟩, vb r_8.2] <| Rk <| Runs.ret <| kB_ret <| kS_ret ?_
         cases h
         exact Fq
        | false =>
         replace h := ite_f hb_9 h
         refine Cf <| Sq <| Ro <| Rc 2 [vb (t4 == 235), vb (t4 == 235)] <| Rk ?_
         cases hb_10 : ((t4 == 235) : Bool) with
         | true =>
          replace h := ite_t hb_10 h
          refine Ct <| Sq <| Ro ?_
          obtain ⟨r_9, hr_9, h⟩ := bind_s h
          have hc_9 := isa_row_L 80 9 0 r_9 hr_9
          refine Rt (some 54) (.callf 38) [] none [.i 80, .i 9, .i 0] (.tup [.d (Row.d r_9.1), .b r_9.2]) [] (cc hc_9) <| Rc 4 [⟨.d (Row.d r_9.1), []⟩, vb r_9.2, ⟨.tup [], [([2], some (.cells [.i r_9.1.Name, .i r_9.1.A, .i r_9.1.B, .b r_9.1.Mod] 0))]⟩, vb r_9.2] <| Rk <| Runs.ret <| kB_ret <| kS_ret ?_
          cases h
          exact Fq
         | false =>
          replace h := ite_f hb_10 h
          refine Cf <| Sq <| Ro <| Rc 2 [vb (t4 == 236), vb (t4 == 236)] <| Rk ?_
          cases hb_11 : ((t4 == 236) : Bool) with
          | true =>
           replace h := ite_t hb_11 h
           refine Ct <| Sq <| Ro ?_
           obtain ⟨r_10, hr_10, h⟩ := bind_s h
           have hc_10 := isa_row_L 78 14 17 r_10 hr_10
           refine Rt (some 59) (.callf 38) [] none [.i 78, .i 14, .i 17] (.tup [.d (Row.d r_10.1), .b r_10.2]) [] (cc hc_10) <| Rc 4 [⟨.d (Row.d r_10.1), []⟩, vb r_10.2, ⟨.tup [], [([2], some (.cells [.i r_10.1.Name, .i r_10.1.A, .i r_10.1.B, .b r_10.1.Mod] 0))]⟩, vb r_10.2] <| Rk <| Runs.ret <| kB_ret <| kS_ret ?_
           cases h
           exact Fq
          | false =>
           replace h := ite_f hb_11 h
           refine Cf <| Sq <| Ro <| Rc 2 [vb (t4 == 237), vb (t4 == 237)] <| Rk ?_
           cases hb_12 : ((t4 == 237) : Bool) with
           | true =>
            replace h := ite_t hb_12 h
            refine Ct <| Sq <| Ro ?_
            obtain ⟨r_11, hr_11, h⟩ := bind_s h
            have hc_11 := isa_row_L 78 16 17 r_11 hr_11
            refine Rt (some 64) (.callf 38) [] none [.i 78, .i 16, .i 17] (.tup [.d (Row.d r_11.1), .b r_11.2]) [] (cc hc_11) <| Rc 4 [⟨.d (Row.d r_11.1), []⟩, vb r_11.2, ⟨.tup [], [([2], some (.cells [.i r_11.1.Name, .i r_11.1.A, .i r_11.1.B, .b r_11.1.Mod] 0))]⟩, vb r_11.2] <| Rk <| Runs.ret <| kB_ret <| kS_ret ?_
            cases h
            exact Fq
           | false =>
            replace h := ite_f hb_12 h
            refine Cf <| Sq <| Ro <| Rc 2 [vb (t4 == 238), vb (t4 == 238)] <| Rk ?_
            cases hb_13 : ((t4 == 238) : Bool) with
            | true =>
             replace h := ite_t hb_13 h
             refine Ct <| Sq <| Ro ?_
             obtain ⟨r_12, hr_12, h⟩ := bind_s h
             have hc_12 := isa_row_L 79 17 14 r_12 hr_12
             refine Rt (some 69) (.callf 38) [] none [.i 79, .i 17, .i 14] (.tup [.d (Row.d r_12.1), .b r_12.2]) [] (cc hc_12) <| Rc 4 [⟨.d (Row.d r_12.1), []⟩, vb r_12.2, ⟨.tup [], [([2], some (.cells [.i r_12.1.Name, .i r_12.1.A, .i r_12.1.B, .b r_12.1.Mod] 0))]⟩, vb r_12.2] <| Rk <| Runs.ret <| kB_ret <| kS_ret ?_
             cases h
             exact Fq
            | false =>
             replace h := ite_f hb_13 h
             refine Cf <| Runs.skip <| kB_nrm <| kS_nrm <| Sq <| Ro ?_
             obtain ⟨r_13, hr_13, h⟩ := bind_s h
             have hc_13 := isa_row_L 79 17 16 r_13 hr_13
             refine Rt (some 72) (.callf 38) [] none [.i 79, .i 17, .i 16] (.tup [.d (Row.d r_13.1), .b r_13.2]) [] (cc hc_13) <| Rc 4 [⟨.d (Row.d r_13.1), []⟩, vb r_13.2, ⟨.tup [], [([2], some (.cells [.i r_13.1.Name, .i r_13.1.A, .i r_13.1.B, .b r_13.1.Mod] 0))]⟩, vb r_13.2] <| Rk <| Runs.ret ?_
             cases h
             exact Fq
theorem isa_goes_ok (op_ : Int) (r : (Row × Bool)) (h : isa_goes op_ = some r) : Runs L0 F45.body ⟨tmOf [.y op_] 0, updW (fun _ => none) []⟩ (isa_goes_Q op_ r) := by
 unfold isa_goes at h
 refine Sq <| Ro <| Rc 2 [⟨.ptr [2] 0 0, [([2], some (.cells [.i 0, .i 0, .i 0, .b false] 0))]⟩, vb false] <| Rk <| Sq <| Sq <| Ro <| Rc 1 [vy op_] <| Rk <| Runs.block <| Sq <| Sq <| Ro <| Rc 2 [vb (op_ == 224), vb (op_ == 224)] <| Rk ?_
 cases hb_1 : ((op_ == 224) : Bool) with
 | true =>
  replace h := ite_t hb_1 h
  refine Ct <| Runs.skip <| kS_nrm <| Runs.canon (isa_goes_h20 ({ Name := 0, A := 0, B := 0, Mod := false } : Row) op_ op_ true) Cz ?_
  exact isa_goes_j20_ok op_ ({ Name := 0, A := 0, B := 0, Mod := false } : Row) op_ op_ true r h
 | false =>
  replace h := ite_f hb_1 h
  refine Cf <| Sq <| Ro <| Rc 2 [vb (op_ == 225), vb (op_ == 225)] <| Rk ?_
  cases hb_14 : ((op_ == 225) : Bool) with
  | true =>
   replace h := ite_t hb_14 h
   refine Ct <| Runs.skip <| kS_nrm <| Runs.canon (isa_goes_h20 ({ Name := 0, A := 0, B := 0, Mod := false } : Row) op_ op_ true) Cz ?_
   exact isa_goes_j20_ok op_ ({ Name := 0, A := 0, B := 0, Mod := false } : Row) op_ op_ true r h
  | false =>
   replace h := ite_f hb_14 h
   refine Cf <| Sq <| Ro <| Rc 2 [vb (op_ == 226), vb (op_ == 226)] <| Rk ?_
   cases hb_15 : ((op_ == 226) : Bool) with
   | true =>
    replace h := ite_t hb_15 h
    refine Ct <| Runs.skip <| kS_nrm <| Runs.canon (isa_goes_h20 ({ Name := 0, A := 0, B := 0, Mod := false } : Row) op_ op_ true) Cz ?_
    exact isa_goes_j20_ok op_ ({ Name := 0, A := 0, B := 0, Mod := false } : Row) op_ op_ true r h
   | false =>
    replace h := ite_f hb_15 h
    refine Cf <| Ro <| Rc 2 [vb (op_ == 227), vb (op_ == 227)] <| Rk <| Runs.canon (isa_goes_h20 ({ Name := 0, A := 0, B := 0, Mod := false } : Row) op_ op_ (op_ == 227)) Cz ?_
    exact isa_goes_j20_ok op_ ({ Name := 0, A := 0, B := 0, Mod := false } : Row) op_ op_ (op_ == 227) r h
theorem isa_goes_L (op_ : Int) (r : (Row × Bool)) (h : isa_goes op_ = some r) : L0 45 [.y op_] = some (.tup [.d (Row.d r.1), .b r.2], [.y op_]) := by
 obtain ⟨p, ⟨hne, hf⟩, hr⟩ := isa_goes_ok op_ r h
 obtain ⟨k, hk⟩ := run_of (F := F45) (args := [.y op_]) (ap := [.y op_]) (bx0 := updW (fun _ => none) []) rfl rfl (by kernel_rfl) ⟨p, ⟨hne, hf⟩, hr⟩
 exact lim_run (k := k) rfl hk
def isa_rest_h18 (b_4 : Row) (op0 : Int) (reg1 : Int) (t21 : Bool) : St := ⟨tab [(0, .y op0), (1, .i reg1), (4, .ptr [4] 0 0), (21, .b t21)], tabB [([4], some (.cells [.i b_4.Name, .i b_4.A, .i b_4.B, .b b_4.Mod] 0))]⟩
def isa_rest_h37 (b_4 : Row) (op0 : Int) (reg1 : Int) (e6 : Int) (i7 : Int) : St := ⟨tab [(0, .y op0), (1, .i reg1), (4, .ptr [4] 0 0), (6, .i e6), (7, .i i7)], tabB [([4], some (.cells [.i b_4.Name, .i b_4.A, .i b_4.B, .b b_4.Mod] 0))]⟩
def isa_rest_Q (op_ : Int) (reg_ : Int) (r : (Row × Bool)) (p : Out × St) : Prop := (∀ i, p.1 ≠ .exit i) ∧ finF F46 [.y op_, .i reg_] p.2 = some (.tup [.d (Row.d r.1), .b r.2], [.y op_, .i reg_])
theorem isa_rest_j37_ok (op_ : Int) (reg_ : Int) (b_4 : Row) (op0 : Int) (reg1 : Int) (e6 : Int) (i7 : Int) (r : (Row × Bool)) (h : isa_rest_j37 b_4 op0 reg1 e6 i7 = some r) : Runs L0 F46b37 (isa_rest_h37 b_4 op0 reg1 e6 i7) (isa_rest_Q op_ reg_ r) := by
 unfold isa_rest_j37 at h
 refine Sq <| Sq <| Ro <| Rc 2 [vy op0, vb (decide (op0 < 248))] <| Rk ?_
 cases hb_7 : ((decide (op0 < 248)) : Bool) with
 | true =>
  replace h := ite_t hb_7 h
  refine Ct <| Sq <| Sq <| Ro <| Rc 1 [vi reg1] <| Rk <| Runs.block <| Sq <| Ro <| Rc 2 [vb (reg1 == 0), vb (reg1 == 0)] <| Rk ?_
  cases hb_8 : ((reg1 == 0) : Bool) with
  | true =>
   replace h := ite_t hb_8 h
   refine Ct <| Sq <| Ro <| Rc 2 [vi e6, vi i7] ?_
   obtain ⟨r_5, hr_5, h⟩ := bind_s h
   have hc_5 := isa_mod_L 33 e6 i7 r_5 hr_5
   refine Rt (some 51) (.callf 67) [] none [.i 33, .i e6, .i i7] (.tup [.d (Row.d r_5.1), .b r_5.2]) [] (cc hc_5) <| Rc 4 [⟨.d (Row.d r_5.1), []⟩, vb r_5.2, ⟨.tup [], [([4], some (.cells [.i r_5.1.Name, .i r_5.1.A, .i r_5.1.B, .b r_5.1.Mod] 0))]⟩, vb r_5.2] <| Rk <| Runs.ret <| kB_ret <| kS_ret <| kS_ret ?_
   cases h
   exact Fq
  | false =>
   replace h := ite_f hb_8 h
   refine Cf <| Sq <| Ro <| Rc 2 [vb (reg1 == 1), vb (reg1 == 1)] <| Rk ?_
   cases hb_9 : ((reg1 == 1) : Bool) with
   | true =>
    replace h := ite_t hb_9 h
    refine Ct <| Sq <| Ro ?_
    obtain ⟨r_6, hr_6, h⟩ := bind_s h
    have hc_6 := isa_bad_L r_6 hr_6
    refine Rt (some 56) (.callf 39) [] none [] (.tup [.d (Row.d r_6.1), .b r_6.2]) [] (cc hc_6) <| Rc 4 [⟨.d (Row.d r_6.1), []⟩, vb r_6.2, ⟨.tup [], [([4], some (.cells [.i r_6.1.Name, .i r_6.1.A, .i r_6.1.B, .b r_6.1.Mod] 0))]⟩, vb r_6.2] <| Rk <| Runs.ret <| kB_ret <| kS_ret <| kS_ret ?_
    cases h
    exact Fq
   | false =>
    replace h := ite_f hb_9 h
    refine Cf <| Runs.skip <| kB_nrm <| kS_nrm <| Sq <| Ro <| Rc 4 [vi reg1, vi (IntKind.wrap .i64 (84 + reg1)), vi (IntKind.wrap .i64 ((IntKind.wrap .i64 (84 + reg1)) - 2)), vi e6] ?_
    obtain ⟨r_7, hr_7, h⟩ := bind_s h
    have hc_7 := isa_mod_L (IntKind.wrap .i64 ((IntKind.wrap .i64 (84 + reg1)) - 2)) e6 0 r_7 hr_7
    refine Rt (some 63) (.callf 67) [] none [.i (IntKind.wrap .i64 ((IntKind.wrap .i64 (84 + reg1)) - 2)), .i e6, .i 0] (.tup [.d (Row.d r_7.1), .b r_7.2]) [] (cc hc_7) <| Rc 4 [⟨.d (Row.d r_7.1), []⟩, vb r_7.2, ⟨.tup [], [([4], some (.cells [.i r_7.1.Name, .i r_7.1.A, .i r_7.1.B, .b r_7.1.Mod] 0))]⟩, vb r_7.2] <| Rk <| Runs.ret <| kS_ret ?_
    cases h
    exact Fq
 | false =>
  replace h := ite_f hb_7 h
  refine Cf <| Runs.skip <| kS_nrm <| Sq <| Runs.block <| Sq <| Ro <| Rc 3 [vi reg1, vb (decide (reg1 < 2)), vb (decide (reg1 < 2))] <| Rk ?_
  cases hb_10 : ((decide (reg1 < 2)) : Bool) with
  | true =>
   replace h := ite_t hb_10 h
   refine Ct <| Sq <| Ro <| Rc 3 [vi reg1, vi (IntKind.wrap .i64 (15 + reg1)), vi e6] ?_
   obtain ⟨r_8, hr_8, h⟩ := bind_s h
   have hc_8 := isa_mod_L (IntKind.wrap .i64 (15 + reg1)) e6 0 r_8 hr_8
   refine Rt (some 72) (.callf 67) [] none [.i (IntKind.wrap .i64 (15 + reg1)), .i e6, .i 0] (.tup [.d (Row.d r_8.1), .b r_8.2]) [] (cc hc_8) <| Rc 4 [⟨.d (Row.d r_8.1), []⟩, vb r_8.2, ⟨.tup [], [([4], some (.cells [.i r_8.1.Name, .i r_8.1.A, .i r_8.1.B, .b r_8.1.Mod] 0))]⟩, vb r_8.2] <| Rk <| Runs.ret <| kB_ret <| kS_ret ?_
   cases h
   exact Fq
  | false =>
   replace h := ite_f hb_10 h
   refine Cf <| Sq <| Ro <| Rc 3 [vy op0, vb (op0 == 254), vb (op0 == 254)] ?_
   cases hb_11 : ((op0 == 254) : Bool) with
   | true =>
    replace h := ite_t hb_11 h
    refine Rc 4 [vn, vn, vb true, vb true] <| Rk <| Ct <| Sq <| Ro ?_
    obtain ⟨r_9, hr_9, h⟩ := bind_s h
    have hc_9 := isa_bad_L r_9 hr_9
    refine Rt (some 82) (.callf 39) [] none [] (.tup [.d (Row.d r_9.1), .b r_9.2]) [] (cc hc_9) <| Rc 4 [⟨.d (Row.d r_9.1), []⟩, vb r_9.2, ⟨.tup [], [([4], some (.cells [.i r_9.1.Name, .i r_9.1.A, .i r_9.1.B, .b r_9.1.Mod] 0))]⟩, vb r_9.2] <| Rk <| Runs.ret <| kB_ret <| kS_ret ?_
    cases h
    exact Fq
   | false =>
    replace h := ite_f hb_11 h
    refine Rc 4 [vi reg1, vb (reg1 == 7), vb (reg1 == 7), vb (reg1 == 7)] <| Rk ?_
    cases hb_12 : ((reg1 == 7) : Bool) with
    | true =>
     replace h := ite_t hb_12 h
     refine Ct <| Sq <| Ro ?_
     obtain ⟨r_10, hr_10, h⟩ := bind_s h
     have hc_10 := isa_bad_L r_10 hr_10
     refine Rt (some 82) (.callf 39) [] none [] (.tup [.d (Row.d r_10.1), .b r_10.2]) [] (cc hc_10) <| Rc 4 [⟨.d (Row.d r_10.1), []⟩, vb r_10.2, ⟨.tup [], [([4], some (.cells [.i r_10.1.Name, .i r_10.1.A, .i r_10.1.B, .b r_10.1.Mod] 0))]⟩, vb r_10.2] <| Rk <| Runs.ret <| kB_ret <| kS_ret ?_
     cases h
     exact Fq
    | false =>
     replace h := ite_f hb_12 h
     refine Cf <| Runs.skip <| kB_nrm <| kS_nrm <| Sq <| Ro <| Rc 3 [⟨.ref [85] 0 0 (List.map (D.int .i64) ([39, 40, 80, 81, 9] : List Int)).length 1, [([85], some (.arr (List.map (D.int .i64) ([39, 40, 80, 81, 9] : List Int)) 0 false))]⟩, vi reg1, vi (IntKind.wrap .i64 (reg1 - 2))] ?_
     obtain ⟨z_1, hz_1, h⟩ := bind_s h
     refine Rt (some 88) (.iaddrS 1) [] none [.ref [85] 0 0 (List.map (D.int .i64) ([39, 40, 80, 81, 9] : List Int)).length 1, .i (IntKind.wrap .i64 (reg1 - 2))] (.eref [85] 0 (0 + ((IntKind.wrap .i64 (reg1 - 2))).toNat) 0) [] (cut_atR (e := (D.int .i64)) (l := ([39, 40, 80, 81, 9] : List Int)) hz_1 rfl) <| Rt (some 89) (.load none) [] none [.eref [85] 0 (0 + ((IntKind.wrap .i64 (reg1 - 2))).toNat) 0] (.i z_1) [] (cut_loadR (e := (D.int .i64)) (l := ([39, 40, 80, 81, 9] : List Int)) (fz := false) (y := z_1) (by kernel_rfl) hz_1 (by kernel_rfl) (by kernel_rfl)) <| Rc 1 [vi z_1] <| Rk <| Sq <| Sq <| Ro <| Rc 3 [vi reg1, vb (reg1 == 3), vb (reg1 == 3)] ?_
     cases hb_13 : ((reg1 == 3) : Bool) with
     | true =>
      replace h := ite_t hb_13 h
      refine Rc 3 [vn, vn, vb true] <| Rk <| Ct <| Ro <| Rc 1 [vi 19] <| Rk <| Sq <| Ro <| Rc 2 [vi z_1, vi 19] ?_
      obtain ⟨r_11, hr_11, h⟩ := bind_s h
      have hc_11 := isa_mod_L z_1 19 0 r_11 hr_11
      refine Rt (some 98) (.callf 67) [] none [.i z_1, .i 19, .i 0] (.tup [.d (Row.d r_11.1), .b r_11.2]) [] (cc hc_11) <| Rc 4 [⟨.d (Row.d r_11.1), []⟩, vb r_11.2, ⟨.tup [], [([4], some (.cells [.i r_11.1.Name, .i r_11.1.A, .i r_11.1.B, .b r_11.1.Mod] 0))]⟩, vb r_11.2] <| Rk <| Runs.ret ?_
      cases h
      exact Fq
     | false =>
      replace h := ite_f hb_13 h
      refine Rc 3 [vi reg1, vb (reg1 == 5), vb (reg1 == 5)] <| Rk ?_
      cases hb_14 : ((reg1 == 5) : Bool) with
      | true =>
       replace h := ite_t hb_14 h
       refine Ct <| Ro <| Rc 1 [vi 19] <| Rk <| Sq <| Ro <| Rc 2 [vi z_1, vi 19] ?_
       obtain ⟨r_12, hr_12, h⟩ := bind_s h
       have hc_12 := isa_mod_L z_1 19 0 r_12 hr_12
       refine Rt (some 98) (.callf 67) [] none [.i z_1, .i 19, .i 0] (.tup [.d (Row.d r_12.1), .b r_12.2]) [] (cc hc_12) <| Rc 4 [⟨.d (Row.d r_12.1), []⟩, vb r_12.2, ⟨.tup [], [([4], some (.cells [.i r_12.1.Name, .i r_12.1.A, .i r_12.1.B, .b r_12.1.Mod] 0))]⟩, vb r_12.2] <| Rk <| Runs.ret ?_
       cases h
       exact Fq
      | false =>
       replace h := ite_f hb_14 h
       refine Cf <| Runs.skip <| kS_nrm <| Sq <| Ro <| Rc 2 [vi z_1, vi e6] ?_
       obtain ⟨r_13, hr_13, h⟩ := bind_s h
       have hc_13 := isa_mod_L z_1 e6 0 r_13 hr_13
       refine Rt (some 98) (.callf 67) [] none [.i z_1, .i e6, .i 0] (.tup [.d (Row.d r_13.1), .b r_13.2]) [] (cc hc_13) <| Rc 4 [⟨.d (Row.d r_13.1), []⟩, vb r_13.2, ⟨.tup [], [([4], some (.cells [.i r_13.1.Name, .i r_13.1.A, .i r_13.1.B, .b r_13.1.Mod] 0))]⟩, vb r_13.2] <| Rk <| Runs.ret ?_
       cases h
       exact Fq
theorem isa_rest_j18_ok (op_ : Int) (reg_ : Int) (b_4 : Row) (op0 : Int) (reg1 : Int) (t21 : Bool) (r : (Row × Bool)) (h : isa_rest_j18 b_4 op0 reg1 t21 = some r) : Runs L0 F46b18 (isa_rest_h18 b_4 op0 reg1 t21) (kB 0 (kS L0 F46c29 (isa_rest_Q op_ reg_ r))) := by
 unfold isa_rest_j18 at h
 cases hb_4 : (t21 : Bool) with
 | true =>
  replace h := ite_t hb_4 h
  refine Ct <| Sq <| Ro <| Rc 4 [vy op0, vy (IntKind.wrap .u8 (op0 - 248)), vi (IntKind.wrap .i64 (IntKind.wrap .u8 (op0 - 248))), vi (IntKind.wrap .i64 (90 + (IntKind.wrap .i64 (IntKind.wrap .u8 (op0 - 248)))))] ?_
  obtain ⟨r_3, hr_3, h⟩ := bind_s h
  have hc_3 := isa_row_L (IntKind.wrap .i64 (90 + (IntKind.wrap .i64 (IntKind.wrap .u8 (op0 - 248))))) 0 0 r_3 hr_3
  refine Rt (some 32) (.callf 38) [] none [.i (IntKind.wrap .i64 (90 + (IntKind.wrap .i64 (IntKind.wrap .u8 (op0 - 248))))), .i 0, .i 0] (.tup [.d (Row.d r_3.1), .b r_3.2]) [] (cc hc_3) <| Rc 4 [⟨.d (Row.d r_3.1), []⟩, vb r_3.2, ⟨.tup [], [([4], some (.cells [.i r_3.1.Name, .i r_3.1.A, .i r_3.1.B, .b r_3.1.Mod] 0))]⟩, vb r_3.2] <| Rk <| Runs.ret <| kB_ret <| kS_ret ?_
  cases h
  exact Fq
 | false =>
  replace h := ite_f hb_4 h
  refine Cf <| Sq <| Ro <| Rc 3 [vy op0, vb (decide (op0 < 246)), vb (decide (op0 < 246))] <| Rk ?_
  cases hb_5 : ((decide (op0 < 246)) : Bool) with
  | true =>
   replace h := ite_t hb_5 h
   refine Ct <| Sq <| Ro ?_
   obtain ⟨r_4, hr_4, h⟩ := bind_s h
   have hc_4 := isa_bad_L r_4 hr_4
   refine Rt (some 38) (.callf 39) [] none [] (.tup [.d (Row.d r_4.1), .b r_4.2]) [] (cc hc_4) <| Rc 4 [⟨.d (Row.d r_4.1), []⟩, vb r_4.2, ⟨.tup [], [([4], some (.cells [.i r_4.1.Name, .i r_4.1.A, .i r_4.1.B, .b r_4.1.Mod] 0))]⟩, vb r_4.2] <| Rk <| Runs.ret <| kB_ret <| kS_ret ?_
   cases h
   exact Fq
  | false =>
   replace h := ite_f hb_5 h
   refine Cf <| Runs.skip <| kB_nrm <| kS_nrm <| Sq <| Ro <| Rc 2 [vi 1, vi 6] <| Rk <| Sq <| Sq <| Ro <| Rc 3 [vy op0, vy (bitsOp .and .u8 op0 1), vb ((bitsOp .and .u8 op0 1) == 1)] <| Rk ?_
   cases hb_6 : (((bitsOp .and .u8 op0 1) == 1) : Bool) with
   | true =>
    replace h := ite_t hb_6 h
    refine Ct <| Ro <| Rc 2 [vi 2, vi 7] <| Rk <| Runs.canon (isa_rest_h37 b_4 op0 reg1 2 7) Cz ?_
    exact isa_rest_j37_ok op_ reg_ b_4 op0 reg1 2 7 r h
   | false =>
    replace h := ite_f hb_6 h
    refine Cf <| Runs.skip <| kS_nrm <| Runs.canon (isa_rest_h37 b_4 op0 reg1 1 6) Cz ?_
    exact isa_rest_j37_ok op_ reg_ b_4 op0 reg1 1 6 r h
theorem isa_rest_ok (op_ : Int) (reg_ : Int) (r : (Row × Bool)) (h : isa_rest op_ reg_ = some r) : Runs L0 F46.body ⟨tmOf [.y op_, .i reg_] 0, updW (fun _ => none) []⟩ (isa_rest_Q op_ reg_ r) := by
 unfold isa_rest at h
 refine Sq <| Ro <| Rc 2 [⟨.ptr [4] 0 0, [([4], some (.cells [.i 0, .i 0, .i 0, .b false] 0))]⟩, vb false] <| Rk <| Sq <| Runs.block <| Sq <| Ro <| Rc 3 [vy op_, vb (op_ == 244), vb (op_ == 244)] <| Rk ?_
 cases hb_1 : ((op_ == 244) : Bool) with
 | true =>
  replace h := ite_t hb_1 h
  refine Ct <| Sq <| Ro ?_
  obtain ⟨r_1, hr_1, h⟩ := bind_s h
  have hc_1 := isa_row_L 82 0 0 r_1 hr_1
  refine Rt (some 12) (.callf 38) [] none [.i 82, .i 0, .i 0] (.tup [.d (Row.d r_1.1), .b r_1.2]) [] (cc hc_1) <| Rc 4 [⟨.d (Row.d r_1.1), []⟩, vb r_1.2, ⟨.tup [], [([4], some (.cells [.i r_1.1.Name, .i r_1.1.A, .i r_1.1.B, .b r_1.1.Mod] 0))]⟩, vb r_1.2] <| Rk <| Runs.ret <| kB_ret <| kS_ret ?_
  cases h
  exact Fq
 | false =>
  replace h := ite_f hb_1 h
  refine Cf <| Sq <| Ro <| Rc 3 [vy op_, vb (op_ == 245), vb (op_ == 245)] <| Rk ?_
  cases hb_2 : ((op_ == 245) : Bool) with
  | true =>
   replace h := ite_t hb_2 h
   refine Ct <| Sq <| Ro ?_
   obtain ⟨r_2, hr_2, h⟩ := bind_s h
   have hc_2 := isa_row_L 83 0 0 r_2 hr_2
   refine Rt (some 18) (.callf 38) [] none [.i 83, .i 0, .i 0] (.tup [.d (Row.d r_2.1), .b r_2.2]) [] (cc hc_2) <| Rc 4 [⟨.d (Row.d r_2.1), []⟩, vb r_2.2, ⟨.tup [], [([4], some (.cells [.i r_2.1.Name, .i r_2.1.A, .i r_2.1.B, .b r_2.1.Mod] 0))]⟩, vb r_2.2] <| Rk <| Runs.ret <| kB_ret <| kS_ret ?_
   cases h
   exact Fq
  | false =>
   replace h := ite_f hb_2 h
   refine Cf <| Sq <| Ro <| Rc 3 [vy op_, vb (decide (op_ ≥ 248)), vb (decide (op_ ≥ 248))] ?_
   cases hb_3 : ((decide (op_ ≥ 248)) : Bool) with
   | true =>
    replace h := ite_t hb_3 h
    refine Rc 4 [vy op_, vb (decide (op_ < 254)), vb (decide (op_ < 254)), vb (decide (op_ < 254))] <| Rk <| Runs.canon (isa_rest_h18 ({ Name := 0, A := 0, B := 0, Mod := false } : Row) op_ reg_ (decide (op_ < 254))) Cz ?_
    exact isa_rest_j18_ok op_ reg_ ({ Name := 0, A := 0, B := 0, Mod := false } : Row) op_ reg_ (decide (op_ < 254)) r h
   | false =>
    replace h := ite_f hb_3 h
    refine Rc 4 [vn, vn, vb false, vb false] <| Rk <| Runs.canon (isa_rest_h18 ({ Name := 0, A := 0, B := 0, Mod := false } : Row) op_ reg_ false) Cz ?_
    exact isa_rest_j18_ok op_ reg_ ({ Name := 0, A := 0, B := 0, Mod := false } : Row) op_ reg_ false r h
theorem isa_rest_L (op_ : Int) (reg_ : Int) (r : (Row × Bool)) (h : isa_rest op_ reg_ = some r) : L0 46 [.y op_, .i reg_] = some (.tup [.d (Row.d r.1), .b r.2], [.y op_, .i reg_]) := by
 obtain ⟨p, ⟨hne, hf⟩, hr⟩ := isa_rest_ok op_ reg_ r h
 obtain ⟨k, hk⟩ := run_of (F := F46) (args := [.y op_, .i reg_]) (ap := [.y op_, .i reg_]) (bx0 := updW (fun _ => none) []) rfl rfl (by kernel_rfl) ⟨p, ⟨hne, hf⟩, hr⟩
 exact lim_run (k := k) rfl hk
def isa_Of_Q (op_ : Int) (reg_ : Int) (r : (Row × Bool)) (p : Out × St) : Prop := (∀ i, p.1 ≠ .exit i) ∧ finF F11 [.y op_, .i reg_] p.2 = some (.tup [.d (Row.d r.1), .b r.2], [.y op_, .i reg_])
theorem isa_Of_ok (op_ : Int) (reg_ : Int) (r : (Row × Bool)) (h : isa_Of op_ reg_ = some r) : Runs L0 F11.body ⟨tmOf [.y op_, .i reg_] 0, updW (fun _ => none) []⟩ (isa_Of_Q op_ reg_ r) := by
 unfold isa_Of at h
 refine Sq <| Ro <| Rc 2 [⟨.ptr [4] 0 0, [([4], some (.cells [.i 0, .i 0, .i 0, .b false] 0))]⟩, vb false] <| Rk <| Sq <| Ro <| Rc 3 [vi reg_, vi (bitsOp .and .i64 reg_ 7), vi (bitsOp .and .i64 reg_ 7)] <| Rk <| Sq <| Runs.block <| Sq <| Ro <| Rc 3 [vy op_, vb (decide (op_ < 64)), vb (decide (op_ < 64))] <| Rk ?_
 cases hb_1 : ((decide (op_ < 64)) : Bool) with
 | true =>
  replace h := ite_t hb_1 h
  refine Ct <| Sq <| Ro <| Rc 1 [vy op_] ?_
  obtain ⟨r_1, hr_1, h⟩ := bind_s h
  have hc_1 := isa_sums_L op_ r_1 hr_1
  refine Rt (some 13) (.callf 37) [] none [.y op_] (.tup [.d (Row.d r_1.1), .b r_1.2]) [] (cc hc_1) <| Rc 4 [⟨.d (Row.d r_1.1), []⟩, vb r_1.2, ⟨.tup [], [([4], some (.cells [.i r_1.1.Name, .i r_1.1.A, .i r_1.1.B, .b r_1.1.Mod] 0))]⟩, vb r_1.2] <| Rk <| Runs.ret <| kB_ret <| kS_ret ?_
  cases h
  exact Fq
 | false =>
  replace h := ite_f hb_1 h
  refine Cf <| Sq <| Ro <| Rc 3 [vy op_, vb (decide (op_ < 96)), vb (decide (op_ < 96))] <| Rk ?_
  cases hb_2 : ((decide (op_ < 96)) : Bool) with
  | true =>
   replace h := ite_t hb_2 h
   refine Ct <| Sq <| Ro <| Rc 4 [⟨.ref [19] 0 0 (List.map (D.int .i64) ([15, 16, 9, 10] : List Int)).length 1, [([19], some (.arr (List.map (D.int .i64) ([15, 16, 9, 10] : List Int)) 0 false))]⟩, vy op_, vy (IntKind.wrap .u8 (op_ - 64)), vy (shrI .u8 (IntKind.wrap .u8 (op_ - 64)) 3)] ?_
   obtain ⟨z_1, hz_1, h⟩ := bind_s h
   refine Rt (some 23) (.iaddrS 1) [] none [.ref [19] 0 0 (List.map (D.int .i64) ([15, 16, 9, 10] : List Int)).length 1, .y (shrI .u8 (IntKind.wrap .u8 (op_ - 64)) 3)] (.eref [19] 0 (0 + ((shrI .u8 (IntKind.wrap .u8 (op_ - 64)) 3)).toNat) 0) [] (cut_atR (e := (D.int .i64)) (l := ([15, 16, 9, 10] : List Int)) hz_1 rfl) <| Rt (some 24) (.load none) [] none [.eref [19] 0 (0 + ((shrI .u8 (IntKind.wrap .u8 (op_ - 64)) 3)).toNat) 0] (.i z_1) [] (cut_loadR (e := (D.int .i64)) (l := ([15, 16, 9, 10] : List Int)) (fz := false) (y := z_1) (by kernel_rfl) hz_1 (by kernel_rfl) (by kernel_rfl)) <| Rc 1 [vi z_1] <| Rk <| Sq <| Ro <| Rc 1 [vi z_1] ?_
   obtain ⟨r_2, hr_2, h⟩ := bind_s h
   have hc_2 := isa_row_L z_1 22 0 r_2 hr_2
   refine Rt (some 26) (.callf 38) [] none [.i z_1, .i 22, .i 0] (.tup [.d (Row.d r_2.1), .b r_2.2]) [] (cc hc_2) <| Rc 4 [⟨.d (Row.d r_2.1), []⟩, vb r_2.2, ⟨.tup [], [([4], some (.cells [.i r_2.1.Name, .i r_2.1.A, .i r_2.1.B, .b r_2.1.Mod] 0))]⟩, vb r_2.2] <| Rk <| Runs.ret <| kB_ret <| kS_ret ?_
   cases h
   exact Fq
  | false =>
   replace h := ite_f hb_2 h
   refine Cf <| Sq <| Ro <| Rc 3 [vy op_, vb (decide (op_ < 112)), vb (decide (op_ < 112))] <| Rk ?_
   cases hb_3 : ((decide (op_ < 112)) : Bool) with
   | true =>
    replace h := ite_t hb_3 h
    refine Ct <| Sq <| Ro ?_
    obtain ⟨r_3, hr_3, h⟩ := bind_s h
    have hc_3 := isa_bad_L r_3 hr_3
    refine Rt (some 32) (.callf 39) [] none [] (.tup [.d (Row.d r_3.1), .b r_3.2]) [] (cc hc_3) <| Rc 4 [⟨.d (Row.d r_3.1), []⟩, vb r_3.2, ⟨.tup [], [([4], some (.cells [.i r_3.1.Name, .i r_3.1.A, .i r_3.1.B, .b r_3.1.Mod] 0))]⟩, vb r_3.2] <| Rk <| Runs.ret <| kB_ret <| kS_ret ?_
    cases h
    exact Fq
   | false =>
    replace h := ite_f hb_3 h
    refine Cf <| Sq <| Ro <| Rc 3 [vy op_, vb (decide (op_ < 128)), vb (decide (op_ < 128))] <| Rk ?_
    cases hb_4 : ((decide (op_ < 128)) : Bool) with
    | true =>
     replace h := ite_t hb_4 h
     refine Ct <| Sq <| Ro <| Rc 4 [vy op_, vy (IntKind.wrap .u8 (op_ - 112)), vi (IntKind.wrap .i64 (IntKind.wrap .u8 (op_ - 112))), vi (IntKind.wrap .i64 (17 + (IntKind.wrap .i64 (IntKind.wrap .u8 (op_ - 112)))))] ?_
     obtain ⟨r_4, hr_4, h⟩ := bind_s h
     have hc_4 := isa_row_L (IntKind.wrap .i64 (17 + (IntKind.wrap .i64 (IntKind.wrap .u8 (op_ - 112))))) 9 0 r_4 hr_4
     refine Rt (some 42) (.callf 38) [] none [.i (IntKind.wrap .i64 (17 + (IntKind.wrap .i64 (IntKind.wrap .u8 (op_ - 112))))), .i 9, .i 0] (.tup [.d (Row.d r_4.1), .b r_4.2]) [] (cc hc_4) <| Rc 4 [⟨.d (Row.d r_4.1), []⟩, vb r_4.2, ⟨.tup [], [([4], some (.cells [.i r_4.1.Name, .i r_4.1.A, .i r_4.1.B, .b r_4.1.Mod] 0))]⟩, vb r_4.2] <| Rk <| Runs.ret <| kB_ret <| kS_ret ?_
     cases h
     exact Fq
    | false =>
     replace h := ite_f hb_4 h
     refine Cf <| Sq <| Ro <| Rc 3 [vy op_, vb (decide (op_ < 144)), vb (decide (op_ < 144))] <| Rk ?_
     cases hb_5 : ((decide (op_ < 144)) : Bool) with
     | true =>
      replace h := ite_t hb_5 h
      refine Ct <| Sq <| Ro <| Rc 2 [vy op_, vi (bitsOp .and .i64 reg_ 7)] ?_
      obtain ⟨r_5, hr_5, h⟩ := bind_s h
      have hc_5 := isa_moves_L op_ (bitsOp .and .i64 reg_ 7) r_5 hr_5
      refine Rt (some 50) (.callf 40) [] none [.y op_, .i (bitsOp .and .i64 reg_ 7)] (.tup [.d (Row.d r_5.1), .b r_5.2]) [] (cc hc_5) <| Rc 4 [⟨.d (Row.d r_5.1), []⟩, vb r_5.2, ⟨.tup [], [([4], some (.cells [.i r_5.1.Name, .i r_5.1.A, .i r_5.1.B, .b r_5.1.Mod] 0))]⟩, vb r_5.2] <| Rk <| Runs.ret <| kB_ret <| kS_ret ?_
      cases h
      exact Fq
     | false =>
      replace h := ite_f hb_5 h
      refine Cf <| Sq <| Ro <| Rc 3 [vy op_, vb (decide (op_ < 160)), vb (decide (op_ < 160))] <| Rk ?_
      cases hb_6 : ((decide (op_ < 160)) : Bool) with
      | true =>
       replace h := ite_t hb_6 h
       refine Ct <| Sq <| Ro <| Rc 1 [vy op_] ?_
       obtain ⟨r_6, hr_6, h⟩ := bind_s h
       have hc_6 := isa_words_L op_ r_6 hr_6
       refine Rt (some 57) (.callf 41) [] none [.y op_] (.tup [.d (Row.d r_6.1), .b r_6.2]) [] (cc hc_6) <| Rc 4 [⟨.d (Row.d r_6.1), []⟩, vb r_6.2, ⟨.tup [], [([4], some (.cells [.i r_6.1.Name, .i r_6.1.A, .i r_6.1.B, .b r_6.1.Mod] 0))]⟩, vb r_6.2] <| Rk <| Runs.ret <| kB_ret <| kS_ret ?_
       cases h
       exact Fq
      | false =>
       replace h := ite_f hb_6 h
       refine Cf <| Sq <| Ro <| Rc 3 [vy op_, vb (decide (op_ < 176)), vb (decide (op_ < 176))] <| Rk ?_
       cases hb_7 : ((decide (op_ < 176)) : Bool) with
       | true =>
        replace h := ite_t hb_7 h
        refine Ct <| Sq <| Ro <| Rc 1 [vy op_] ?_
        obtain ⟨r_7, hr_7, h⟩ := bind_s h
        have hc_7 := isa_texts_L op_ r_7 hr_7
        refine Rt (some 64) (.callf 42) [] none [.y op_] (.tup [.d (Row.d r_7.1), .b r_7.2]) [] (cc hc_7) <| Rc 4 [⟨.d (Row.d r_7.1), []⟩, vb r_7.2, ⟨.tup [], [([4], some (.cells [.i r_7.1.Name, .i r_7.1.A, .i r_7.1.B, .b r_7.1.Mod] 0))]⟩, vb r_7.2] <| Rk <| Runs.ret <| kB_ret <| kS_ret ?_
        cases h
        exact Fq
       | false =>
        replace h := ite_f hb_7 h
        refine Cf <| Sq <| Ro <| Rc 3 [vy op_, vb (decide (op_ < 184)), vb (decide (op_ < 184))] <| Rk ?_
        cases hb_8 : ((decide (op_ < 184)) : Bool) with
        | true =>
         replace h := ite_t hb_8 h
         refine Ct <| Sq <| Ro ?_
         obtain ⟨r_8, hr_8, h⟩ := bind_s h
         have hc_8 := isa_row_L 35 21 6 r_8 hr_8
         refine Rt (some 70) (.callf 38) [] none [.i 35, .i 21, .i 6] (.tup [.d (Row.d r_8.1), .b r_8.2]) [] (cc hc_8) <| Rc 4 [⟨.d (Row.d r_8.1), []⟩, vb r_8.2, ⟨.tup [], [([4], some (.cells [.i r_8.1.Name, .i r_8.1.A, .i r_8.1.B, .b r_8.1.Mod] 0))]⟩, vb r_8.2] <| Rk <| Runs.ret <| kB_ret <| kS_ret ?_
         cases h
         exact Fq
        | false =>
         replace h := ite_f hb_8 h
         refine Cf <| Sq <| Ro <| Rc 3 [vy op_, vb (decide (op_ < 192)), vb (decide (op_ < 192))] <| Rk ?_
         cases hb_9 : ((decide (op_ < 192)) : Bool) with
         | true =>
          replace h := ite_t hb_9 h
          refine Ct <| Sq <| Ro ?_
          obtain ⟨r_9, hr_9, h⟩ := bind_s h
          have hc_9 := isa_row_L 35 22 7 r_9 hr_9
          refine Rt (some 76) (.callf 38) [] none [.i 35, .i 22, .i 7] (.tup [.d (Row.d r_9.1), .b r_9.2]) [] (cc hc_9) <| Rc 4 [⟨.d (Row.d r_9.1), []⟩, vb r_9.2, ⟨.tup [], [([4], some (.cells [.i r_9.1.Name, .i r_9.1.A, .i r_9.1.B, .b r_9.1.Mod] 0))]⟩, vb r_9.2] <| Rk <| Runs.ret <| kB_ret <| kS_ret ?_
          cases h
          exact Fq
         | false =>
          replace h := ite_f hb_9 h
          refine Cf <| Sq <| Ro <| Rc 3 [vy op_, vb (decide (op_ < 208)), vb (decide (op_ < 208))] <| Rk ?_
          cases hb_10 : ((decide (op_ < 208)) : Bool) with
          | true =>
           replace h := ite_t hb_10 h
           refine Ct <| Sq <| Ro <| Rc 2 [vy op_, vi (bitsOp .and .i64 reg_ 7)] ?_
           obtain ⟨r_10, hr_10, h⟩ := bind_s h
           have hc_10 := isa_backs_L op_ (bitsOp .and .i64 reg_ 7) r_10 hr_10
           refine Rt (some 84) (.callf 43) [] none [.y op_, .i (bitsOp .and .i64 reg_ 7)] (.tup [.d (Row.d r_10.1), .b r_10.2]) [] (cc hc_10) <| Rc 4 [⟨.d (Row.d r_10.1), []⟩, vb r_10.2, ⟨.tup [], [([4], some (.cells [.i r_10.1.Name, .i r_10.1.A, .i r_10.1.B, .b r_10.1.Mod] 0))]⟩, vb r_10.2] <| Rk <| Runs.ret <| kB_ret <| kS_ret ?_
           cases h
           exact Fq
          | false =>
           replace h := ite_f hb_10 h
           refine Cf <| Sq <| Ro <| Rc 3 [vy op_, vb (decide (op_ < 224)), vb (decide (op_ < 224))] <| Rk ?_
           cases hb_11 : ((decide (op_ < 224)) : Bool) with
           | true =>
            replace h := ite_t hb_11 h
            refine Ct <| Sq <| Ro <| Rc 2 [vy op_, vi (bitsOp .and .i64 reg_ 7)] ?_
            obtain ⟨r_11, hr_11, h⟩ := bind_s h
            have hc_11 := isa_turns_L op_ (bitsOp .and .i64 reg_ 7) r_11 hr_11
            refine Rt (some 92) (.callf 44) [] none [.y op_, .i (bitsOp .and .i64 reg_ 7)] (.tup [.d (Row.d r_11.1), .b r_11.2]) [] (cc hc_11) <| Rc 4 [⟨.d (Row.d r_11.1), []⟩, vb r_11.2, ⟨.tup [], [([4], some (.cells [.i r_11.1.Name, .i r_11.1.A, .i r_11.1.B, .b r_11.1.Mod] 0))]⟩, vb r_11.2] <| Rk <| Runs.ret <| kB_ret <| kS_ret ?_
            cases h
            exact Fq
           | false =>
            replace h := ite_f hb_11 h
            refine Cf <| Sq <| Ro <| Rc 3 [vy op_, vb (decide (op_ < 240)), vb (decide (op_ < 240))] <| Rk ?_
            cases hb_12 : ((decide (op_ < 240)) : Bool) with
            | true =>
             replace h := ite_t hb_12 h
             refine Ct <| Sq <| Ro <| Rc 1 [vy op_] ?_
             obtain ⟨r_12, hr_12, h⟩ := bind_s h
             have hc_12 := isa_goes_L op_ r_12 hr_12
             refine Rt (some 99) (.callf 45) [] none [.y op_] (.tup [.d (Row.d r_12.1), .b r_12.2]) [] (cc hc_12) <| Rc 4 [⟨.d (Row.d r_12.1), []⟩, vb r_12.2, ⟨.tup [], [([4], some (.cells [.i r_12.1.Name, .i r_12.1.A, .i r_12.1.B, .b r_12.1.Mod] 0))]⟩, vb r_12.2] <| Rk <| Runs.ret <| kB_ret <| kS_ret ?_
             cases h
             exact Fq
            | false =>
             replace h := ite_f hb_12 h
             refine Cf <| Runs.skip <| kB_nrm <| kS_nrm <| Sq <| Ro <| Rc 2 [vy op_, vi (bitsOp .and .i64 reg_ 7)] ?_
             obtain ⟨r_13, hr_13, h⟩ := bind_s h
             have hc_13 := isa_rest_L op_ (bitsOp .and .i64 reg_ 7) r_13 hr_13
             refine Rt (some 104) (.callf 46) [] none [.y op_, .i (bitsOp .and .i64 reg_ 7)] (.tup [.d (Row.d r_13.1), .b r_13.2]) [] (cc hc_13) <| Rc 4 [⟨.d (Row.d r_13.1), []⟩, vb r_13.2, ⟨.tup [], [([4], some (.cells [.i r_13.1.Name, .i r_13.1.A, .i r_13.1.B, .b r_13.1.Mod] 0))]⟩, vb r_13.2] <| Rk <| Runs.ret ?_
             cases h
             exact Fq
theorem isa_Of_L (op_ : Int) (reg_ : Int) (r : (Row × Bool)) (h : isa_Of op_ reg_ = some r) : L0 11 [.y op_, .i reg_] = some (.tup [.d (Row.d r.1), .b r.2], [.y op_, .i reg_]) := by
 obtain ⟨p, ⟨hne, hf⟩, hr⟩ := isa_Of_ok op_ reg_ r h
 obtain ⟨k, hk⟩ := run_of (F := F11) (args := [.y op_, .i reg_]) (ap := [.y op_, .i reg_]) (bx0 := updW (fun _ => none) []) rfl rfl (by kernel_rfl) ⟨p, ⟨hne, hf⟩, hr⟩
 exact lim_run (k := k) rfl hk
def isa_Two_h6 (op0 : Int) (t6 : Int) : St := ⟨tab [(0, .y op0), (6, .i t6)], tabB []⟩
def isa_Two_h27  : St := ⟨tab [], tabB []⟩
def isa_Two_Q (op_ : Int) (r : Bool) (p : Out × St) : Prop := (∀ i, p.1 ≠ .exit i) ∧ finF F23 [.y op_] p.2 = some (.b r, [.y op_])
def isa_Two_P6 (op_ : Int) (op0 : Int) (e : (Bool ⊕ Unit)) (p : Out × St) : Prop := match e with
 | .inl x => p.1 = .ret ∧ finF F23 [.y op_] p.2 = some (.b x, [.y op_])
 | .inr x => p.1 = .exit 0 ∧ ∃ g : Unit, Canon [] [] [] p.2 (isa_Two_h27)
theorem isa_Two_l6_ok (op_ : Int) (op0 : Int) (t6 : Int) (r : (Lp Int (Bool ⊕ Unit))) (h : isa_Two_l6 op0 t6 = some r) : Runs L0 F23l6 (isa_Two_h6 op0 t6) (LQ [] [0, 6] [] (fun (x : Int) (g : Unit) => isa_Two_h6 op0 x) (isa_Two_P6 op_ op0) r) := by
 unfold isa_Two_l6 at h
 refine Sq <| Ro <| Rc 1 [vb (decide (t6 < 8))] <| Rk <| Sq ?_
 cases hb_1 : ((decide (t6 < 8)) : Bool) with
 | true =>
  replace h := ite_t hb_1 h
  refine Ct <| Runs.skip <| kS_nrm <| Sq <| Runs.block <| Sq <| Ro <| Rc 2 [vi t6, vi t6] <| Rk <| Sq <| Ro <| Rc 2 [vy op0, vi t6] ?_
  obtain ⟨r_1, hr_1, h⟩ := bind_s h
  have hc_1 := isa_Of_L op0 t6 r_1 hr_1
  refine Rt (some 12) (.callf 11) [] none [.y op0, .i t6] (.tup [.d (Row.d r_1.1), .b r_1.2]) [] (cc hc_1) <| Rc 6 [⟨.tup [.d (Row.d r_1.1), .b r_1.2], []⟩, ⟨.d (Row.d r_1.1), []⟩, vb r_1.2, ⟨.ptr [4] 0 0, [([4], some (.cells [.i 0, .i 0, .i 0, .b false] 0))]⟩, ⟨.tup [], [([4], some (.cells [.i r_1.1.Name, .i r_1.1.A, .i r_1.1.B, .b r_1.1.Mod] 0))]⟩, vb r_1.2] <| Rk <| Sq <| Ro <| Rc 2 [vb r_1.2, vb r_1.2] ?_
  cases hb_2 : (r_1.2 : Bool) with
  | true =>
   replace h := ite_t hb_2 h
   refine Rc 3 [vp [4] 0 3, vb r_1.1.Mod, vb r_1.1.Mod] <| Rk ?_
   cases hb_3 : (r_1.1.Mod : Bool) with
   | true =>
    replace h := ite_t hb_3 h
    refine Ct <| Sq <| Ro <| Rc 1 [vb true] <| Rk <| Runs.ret <| kB_ret <| kS_ret ?_
    obtain rfl := sj h
    exact ⟨nofun, rfl, (by kernel_rfl)⟩
   | false =>
    replace h := ite_f hb_3 h
    refine Cf <| Runs.skip <| kB_nrm <| kS_nrm <| Ro <| Rc 2 [vi (IntKind.wrap .i64 (t6 + 1)), vi (IntKind.wrap .i64 (t6 + 1))] <| Rd ?_
    obtain rfl := sj h
    exact ⟨rfl, (), Cz⟩
  | false =>
   replace h := ite_f hb_2 h
   refine Rc 3 [vn, vn, vb false] <| Rk <| Cf <| Runs.skip <| kB_nrm <| kS_nrm <| Ro <| Rc 2 [vi (IntKind.wrap .i64 (t6 + 1)), vi (IntKind.wrap .i64 (t6 + 1))] <| Rd ?_
   obtain rfl := sj h
   exact ⟨rfl, (), Cz⟩
 | false =>
  replace h := ite_f hb_1 h
  refine Cf <| Runs.exit <| kS_exit ?_
  obtain rfl := sj h
  exact ⟨nofun, rfl, (), Cz⟩
theorem isa_Two_ok (op_ : Int) (r : Bool) (h : isa_Two op_ = some r) : Runs L0 F23.body ⟨tmOf [.y op_] 0, updW (fun _ => none) []⟩ (isa_Two_Q op_ r) := by
 unfold isa_Two at h
 refine Sq <| Ro <| Rc 1 [vb false] <| Rk <| Sq <| Sq <| Ro <| Rc 1 [vi 0] <| Rk <| Runs.block ?_
 obtain ⟨e_1, he_1, h⟩ := bind_s h
 refine Runs.loop (fun x : Int => isa_Two_l6 op_ x) (fun (x : Int) (g : Unit) => isa_Two_h6 op_ x) (isa_Two_P6 op_ op_) (fun x g r hr => isa_Two_l6_ok op_ op_ x  r hr) () he_1 Cz ?_
 rintro ⟨o, s⟩ hp
 cases e_1 with
 | inl e_2 =>
  obtain ⟨ho, hf⟩ := hp
  have ho' : o = .ret := ho
  subst ho'
  refine kB_ret <| kS_ret ?_
  obtain rfl := sj h
  exact ⟨Out.ret_ne, hf⟩
 | inr e_3 =>
  obtain ⟨ho, g_1, hk_1⟩ := hp
  have ho' : o = .exit 0 := ho
  subst ho'
  refine kB_hit <| kS_nrm <| Runs.canon _ hk_1 <| Sq <| Ro <| Rc 1 [vb false] <| Rk <| Runs.ret ?_
  cases h
  exact Fq
theorem isa_Two_L (op_ : Int) (r : Bool) (h : isa_Two op_ = some r) : L0 23 [.y op_] = some (.b r, [.y op_]) := by
 obtain ⟨p, ⟨hne, hf⟩, hr⟩ := isa_Two_ok op_ r h
 obtain ⟨k, hk⟩ := run_of (F := F23) (args := [.y op_]) (ap := [.y op_]) (bx0 := updW (fun _ => none) []) rfl rfl (by kernel_rfl) ⟨p, ⟨hne, hf⟩, hr⟩
 exact lim_run (k := k) rfl hk
def inst_Disps_Q (mod_ : Int) (rm_ : Int) (r : Int) (p : Out × St) : Prop := (∀ i, p.1 ≠ .exit i) ∧ finF F59 [.i mod_, .i rm_] p.2 = some (.i r, [.i mod_, .i rm_])
theorem inst_Disps_ok (mod_ : Int) (rm_ : Int) (r : Int) (h : inst_Disps mod_ rm_ = some r) : Runs L0 F59.body ⟨tmOf [.i mod_, .i rm_] 0, updW (fun _ => none) []⟩ (inst_Disps_Q mod_ rm_ r) := by
 unfold inst_Disps at h
 refine Sq <| Ro <| Rc 1 [vi 0] <| Rk <| Sq <| Runs.block <| Sq <| Ro <| Rc 3 [vi mod_, vb (mod_ == 1), vb (mod_ == 1)] <| Rk ?_
 cases hb_1 : ((mod_ == 1) : Bool) with
 | true =>
  replace h := ite_t hb_1 h
  refine Ct <| Sq <| Ro <| Rc 1 [vi 1] <| Rk <| Runs.ret <| kB_ret <| kS_ret ?_
  cases h
  exact Fq
 | false =>
  replace h := ite_f hb_1 h
  refine Cf <| Sq <| Sq <| Ro <| Rc 3 [vi mod_, vb (mod_ == 2), vb (mod_ == 2)] <| Rk ?_
  cases hb_2 : ((mod_ == 2) : Bool) with
  | true =>
   replace h := ite_t hb_2 h
   refine Ct <| Runs.skip <| kS_nrm <| Ct <| Sq <| Ro <| Rc 1 [vi 2] <| Rk <| Runs.ret <| kB_ret <| kS_ret ?_
   cases h
   exact Fq
  | false =>
   replace h := ite_f hb_2 h
   refine Cf <| Ro <| Rc 3 [vi mod_, vb (mod_ == 0), vb (mod_ == 0)] ?_
   cases hb_3 : ((mod_ == 0) : Bool) with
   | true =>
    replace h := ite_t hb_3 h
    refine Rc 4 [vi rm_, vb (rm_ == 6), vb (rm_ == 6), vb (rm_ == 6)] <| Rk ?_
    cases hb_4 : ((rm_ == 6) : Bool) with
    | true =>
     replace h := ite_t hb_4 h
     refine Ct <| Sq <| Ro <| Rc 1 [vi 2] <| Rk <| Runs.ret <| kB_ret <| kS_ret ?_
     cases h
     exact Fq
    | false =>
     replace h := ite_f hb_4 h
     refine Cf <| Runs.skip <| kB_nrm <| kS_nrm <| Sq <| Ro <| Rc 1 [vi 0] <| Rk <| Runs.ret ?_
     cases h
     exact Fq
   | false =>
    replace h := ite_f hb_3 h
    refine Rc 4 [vn, vn, vb false, vb false] <| Rk <| Cf <| Runs.skip <| kB_nrm <| kS_nrm <| Sq <| Ro <| Rc 1 [vi 0] <| Rk <| Runs.ret ?_
    cases h
    exact Fq
theorem inst_Disps_L (mod_ : Int) (rm_ : Int) (r : Int) (h : inst_Disps mod_ rm_ = some r) : L0 59 [.i mod_, .i rm_] = some (.i r, [.i mod_, .i rm_]) := by
 obtain ⟨p, ⟨hne, hf⟩, hr⟩ := inst_Disps_ok mod_ rm_ r h
 obtain ⟨k, hk⟩ := run_of (F := F59) (args := [.i mod_, .i rm_]) (ap := [.i mod_, .i rm_]) (bx0 := updW (fun _ => none) []) rfl rfl (by kernel_rfl) ⟨p, ⟨hne, hf⟩, hr⟩
 exact lim_run (k := k) rfl hk
def bits_Sign_Q (b_ : Int) (r : Int) (p : Out × St) : Prop := (∀ i, p.1 ≠ .exit i) ∧ finF F72 [.y b_] p.2 = some (.w r, [.y b_])
theorem bits_Sign_ok (b_ : Int) (r : Int) (h : bits_Sign b_ = some r) : Runs L0 F72.body ⟨tmOf [.y b_] 0, updW (fun _ => none) []⟩ (bits_Sign_Q b_ r) := by
 unfold bits_Sign at h
 refine Sq <| Ro <| Rc 1 [vw 0] <| Rk <| Sq <| Ro <| Rc 5 [vy b_, ⟨.d (.int .i8 (IntKind.wrap .i8 b_)), []⟩, ⟨.d (.int .i16 (IntKind.wrap .i16 (IntKind.wrap .i8 b_))), []⟩, vw (IntKind.wrap .u16 (IntKind.wrap .i16 (IntKind.wrap .i8 b_))), vw (IntKind.wrap .u16 (IntKind.wrap .i16 (IntKind.wrap .i8 b_)))] <| Rk <| Runs.ret ?_
 cases h
 exact Fq
theorem bits_Sign_L (b_ : Int) (r : Int) (h : bits_Sign b_ = some r) : L0 72 [.y b_] = some (.w r, [.y b_]) := by
 obtain ⟨p, ⟨hne, hf⟩, hr⟩ := bits_Sign_ok b_ r h
 obtain ⟨k, hk⟩ := run_of (F := F72) (args := [.y b_]) (ap := [.y b_]) (bx0 := updW (fun _ => none) []) rfl rfl (by kernel_rfl) ⟨p, ⟨hne, hf⟩, hr⟩
 exact lim_run (k := k) rfl hk
def bits_Word_Q (low_ : Int) (high_ : Int) (r : Int) (p : Out × St) : Prop := (∀ i, p.1 ≠ .exit i) ∧ finF F76 [.y low_, .y high_] p.2 = some (.w r, [.y low_, .y high_])
theorem bits_Word_ok (low_ : Int) (high_ : Int) (r : Int) (h : bits_Word low_ high_ = some r) : Runs L0 F76.body ⟨tmOf [.y low_, .y high_] 0, updW (fun _ => none) []⟩ (bits_Word_Q low_ high_ r) := by
 unfold bits_Word at h
 refine Sq <| Ro <| Rc 1 [vw 0] <| Rk <| Sq <| Ro <| Rc 7 [vy low_, vw (IntKind.wrap .u16 low_), vy high_, vw (IntKind.wrap .u16 high_), vw (shlI .u16 (IntKind.wrap .u16 high_) 8), vw (bitsOp .or .u16 (IntKind.wrap .u16 low_) (shlI .u16 (IntKind.wrap .u16 high_) 8)), vw (bitsOp .or .u16 (IntKind.wrap .u16 low_) (shlI .u16 (IntKind.wrap .u16 high_) 8))] <| Rk <| Runs.ret ?_
 cases h
 exact Fq
theorem bits_Word_L (low_ : Int) (high_ : Int) (r : Int) (h : bits_Word low_ high_ = some r) : L0 76 [.y low_, .y high_] = some (.w r, [.y low_, .y high_]) := by
 obtain ⟨p, ⟨hne, hf⟩, hr⟩ := bits_Word_ok low_ high_ r h
 obtain ⟨k, hk⟩ := run_of (F := F76) (args := [.y low_, .y high_]) (ap := [.y low_, .y high_]) (bx0 := updW (fun _ => none) []) rfl rfl (by kernel_rfl) ⟨p, ⟨hne, hf⟩, hr⟩
 exact lim_run (k := k) rfl hk
def scan_source_word_Q (s_ : Source) (r : (Int × Source)) (p : Out × St) : Prop := (∀ i, p.1 ≠ .exit i) ∧ finF F75 [.ptr [0] 0 0] p.2 = some (.w r.1, [.ptr [.d (.sl (mY r.2.b)), .i r.2.at_]])
theorem scan_source_word_ok (s_ : Source) (r : (Int × Source)) (h : scan_source_word s_ = some r) : Runs L0 F75.body ⟨tmOf [.ptr [0] 0 0] 0, updW (fun _ => none) [([0], some (.cells [.d (.sl (mY s_.b)), .i s_.at_] 0))]⟩ (scan_source_word_Q s_ r) := by
 unfold scan_source_word at h
 refine Sq <| Ro <| Rc 1 [vw 0] <| Rk <| Sq <| Ro <| Rc 1 [vp [0] 0 0] ?_
 obtain ⟨r_1, hr_1, h⟩ := bind_s h
 have hc_1 := scan_source_next_L s_ r_1 hr_1
 refine Rt (some 5) (.callf 74) [] none [.ptr [0] 0 0] (.y r_1.1) [([0], some (.cells [.d (.sl (mY r_1.2.b)), .i r_1.2.at_] 0))] (cut_call (call_of (ws := []) (us := [([0], some (.cells [.d (.sl (mY r_1.2.b)), .i r_1.2.at_] 0))]) (by kernel_rfl) (by kernel_rfl) hc_1 (by kernel_rfl) (by kernel_rfl))) <| Rc 1 [vy r_1.1] <| Rk <| Sq <| Ro <| Rc 2 [vy r_1.1, vp [0] 0 0] ?_
 obtain ⟨r_2, hr_2, h⟩ := bind_s h
 have hc_2 := scan_source_next_L r_1.2 r_2 hr_2
 refine Rt (some 8) (.callf 74) [] none [.ptr [0] 0 0] (.y r_2.1) [([0], some (.cells [.d (.sl (mY r_2.2.b)), .i r_2.2.at_] 0))] (cut_call (call_of (ws := []) (us := [([0], some (.cells [.d (.sl (mY r_2.2.b)), .i r_2.2.at_] 0))]) (by kernel_rfl) (by kernel_rfl) hc_2 (by kernel_rfl) (by kernel_rfl))) ?_
 obtain ⟨r_3, hr_3, h⟩ := bind_s h
 have hc_3 := bits_Word_L r_1.1 r_2.1 r_3 hr_3
 refine Rt (some 9) (.callf 76) [] none [.y r_1.1, .y r_2.1] (.w r_3) [] (cc hc_3) <| Rc 1 [vw r_3] <| Rk <| Runs.ret ?_
 cases h
 exact Fq
theorem scan_source_word_L (s_ : Source) (r : (Int × Source)) (h : scan_source_word s_ = some r) : L0 75 [.ptr [.d (.sl (mY s_.b)), .i s_.at_]] = some (.w r.1, [.ptr [.d (.sl (mY r.2.b)), .i r.2.at_]]) := by
 obtain ⟨p, ⟨hne, hf⟩, hr⟩ := scan_source_word_ok s_ r h
 obtain ⟨k, hk⟩ := run_of (F := F75) (args := [.ptr [.d (.sl (mY s_.b)), .i s_.at_]]) (ap := [.ptr [0] 0 0]) (bx0 := updW (fun _ => none) [([0], some (.cells [.d (.sl (mY s_.b)), .i s_.at_] 0))]) rfl rfl (by kernel_rfl) ⟨p, ⟨hne, hf⟩, hr⟩
 exact lim_run (k := k) rfl hk
def scan_source_second_Q (s_ : Source) (i_ : Inst) (r : (Inst × Source)) (p : Out × St) : Prop := (∀ i, p.1 ≠ .exit i) ∧ finF F70 [.ptr [0] 0 0, .ptr [1] 0 0] p.2 = some (.tup [], [.ptr [.d (.sl (mY r.2.b)), .i r.2.at_], .ptr [.b r.1.Lock, .i r.1.Rep, .i r.1.Seg, .y r.1.Op, .i r.1.Mod, .i r.1.Reg, .i r.1.RM, .w r.1.Disp, .w r.1.Imm, .w r.1.Sel]])
theorem scan_source_second_ok (s_ : Source) (i_ : Inst) (r : (Inst × Source)) (h : scan_source_second s_ i_ = some r) : Runs L0 F70.body ⟨tmOf [.ptr [0] 0 0, .ptr [1] 0 0] 0, updW (fun _ => none) [([0], some (.cells [.d (.sl (mY s_.b)), .i s_.at_] 0)), ([1], some (.cells [.b i_.Lock, .i i_.Rep, .i i_.Seg, .y i_.Op, .i i_.Mod, .i i_.Reg, .i i_.RM, .w i_.Disp, .w i_.Imm, .w i_.Sel] 0))]⟩ (scan_source_second_Q s_ i_ r) := by
 unfold scan_source_second at h
 refine Sq <| Sq <| Ro <| Rc 1 [vp [0] 0 0] ?_
 obtain ⟨r_1, hr_1, h⟩ := bind_s h
 have hc_1 := scan_source_next_L s_ r_1 hr_1
 refine Rt (some 6) (.callf 74) [] none [.ptr [0] 0 0] (.y r_1.1) [([0], some (.cells [.d (.sl (mY r_1.2.b)), .i r_1.2.at_] 0))] (cut_call (call_of (ws := []) (us := [([0], some (.cells [.d (.sl (mY r_1.2.b)), .i r_1.2.at_] 0))]) (by kernel_rfl) (by kernel_rfl) hc_1 (by kernel_rfl) (by kernel_rfl))) <| Rc 2 [vi (IntKind.wrap .i64 r_1.1), vi (IntKind.wrap .i64 r_1.1)] <| Rk <| Sq <| Ro <| Rc 19 [vp [1] 0 0, vp [1] 0 0, vp [1] 0 0, vi (IntKind.wrap .i64 r_1.1), vi (shrI .i64 (IntKind.wrap .i64 r_1.1) 6), vi (IntKind.wrap .i64 r_1.1), vi (shrI .i64 (IntKind.wrap .i64 r_1.1) 3), vi (bitsOp .and .i64 (shrI .i64 (IntKind.wrap .i64 r_1.1) 3) 7), vi (IntKind.wrap .i64 r_1.1), vi (bitsOp .and .i64 (IntKind.wrap .i64 r_1.1) 7), vp [1] 0 0, vp [1] 0 4, ⟨.tup [], [([1], some (.cells [.b i_.Lock, .i i_.Rep, .i i_.Seg, .y i_.Op, .i (shrI .i64 (IntKind.wrap .i64 r_1.1) 6), .i i_.Reg, .i i_.RM, .w i_.Disp, .w i_.Imm, .w i_.Sel] 0))]⟩, vp [1] 0 0, vp [1] 0 5, ⟨.tup [], [([1], some (.cells [.b i_.Lock, .i i_.Rep, .i i_.Seg, .y i_.Op, .i (shrI .i64 (IntKind.wrap .i64 r_1.1) 6), .i (bitsOp .and .i64 (shrI .i64 (IntKind.wrap .i64 r_1.1) 3) 7), .i i_.RM, .w i_.Disp, .w i_.Imm, .w i_.Sel] 0))]⟩, vp [1] 0 0, vp [1] 0 6, ⟨.tup [], [([1], some (.cells [.b i_.Lock, .i i_.Rep, .i i_.Seg, .y i_.Op, .i (shrI .i64 (IntKind.wrap .i64 r_1.1) 6), .i (bitsOp .and .i64 (shrI .i64 (IntKind.wrap .i64 r_1.1) 3) 7), .i (bitsOp .and .i64 (IntKind.wrap .i64 r_1.1) 7), .w i_.Disp, .w i_.Imm, .w i_.Sel] 0))]⟩] ?_
 refine Rk <| Sq <| Ro <| Rc 8 [vp [1] 0 0, vp [1] 0 0, vp [1] 0 4, vi (shrI .i64 (IntKind.wrap .i64 r_1.1) 6), vp [1] 0 0, vp [1] 0 0, vp [1] 0 6, vi (bitsOp .and .i64 (IntKind.wrap .i64 r_1.1) 7)] ?_
 obtain ⟨r_2, hr_2, h⟩ := bind_s h
 have hc_2 := inst_Disps_L (shrI .i64 (IntKind.wrap .i64 r_1.1) 6) (bitsOp .and .i64 (IntKind.wrap .i64 r_1.1) 7) r_2 hr_2
 refine Rt (some 32) (.callf 59) [] none [.i (shrI .i64 (IntKind.wrap .i64 r_1.1) 6), .i (bitsOp .and .i64 (IntKind.wrap .i64 r_1.1) 7)] (.i r_2) [] (cc hc_2) <| Rk <| Runs.block <| Sq <| Ro <| Rc 2 [vb (r_2 == 1), vb (r_2 == 1)] <| Rk ?_
 cases hb_1 : ((r_2 == 1) : Bool) with
 | true =>
  replace h := ite_t hb_1 h
  refine Ct <| Ro <| Rc 2 [vp [1] 0 0, vp [0] 0 0] ?_
  obtain ⟨r_3, hr_3, h⟩ := bind_s h
  have hc_3 := scan_source_next_L r_1.2 r_3 hr_3
  refine Rt (some 37) (.callf 74) [] none [.ptr [0] 0 0] (.y r_3.1) [([0], some (.cells [.d (.sl (mY r_3.2.b)), .i r_3.2.at_] 0))] (cut_call (call_of (ws := []) (us := [([0], some (.cells [.d (.sl (mY r_3.2.b)), .i r_3.2.at_] 0))]) (by kernel_rfl) (by kernel_rfl) hc_3 (by kernel_rfl) (by kernel_rfl))) ?_
  obtain ⟨r_4, hr_4, h⟩ := bind_s h
  have hc_4 := bits_Sign_L r_3.1 r_4 hr_4
  refine Rt (some 38) (.callf 72) [] none [.y r_3.1] (.w r_4) [] (cc hc_4) <| Rc 3 [vp [1] 0 0, vp [1] 0 7, ⟨.tup [], [([1], some (.cells [.b i_.Lock, .i i_.Rep, .i i_.Seg, .y i_.Op, .i (shrI .i64 (IntKind.wrap .i64 r_1.1) 6), .i (bitsOp .and .i64 (shrI .i64 (IntKind.wrap .i64 r_1.1) 3) 7), .i (bitsOp .and .i64 (IntKind.wrap .i64 r_1.1) 7), .w r_4, .w i_.Imm, .w i_.Sel] 0))]⟩] <| Rd <| kB_nrm <| kS_nrm <| Runs.gnil ?_
  obtain rfl := sj h
  exact ⟨Out.nrm_ne, (by kernel_rfl)⟩
 | false =>
  replace h := ite_f hb_1 h
  refine Cf <| Sq <| Ro <| Rc 2 [vb (r_2 == 2), vb (r_2 == 2)] <| Rk ?_
  cases hb_2 : ((r_2 == 2) : Bool) with
  | true =>
   replace h := ite_t hb_2 h
   refine Ct <| Ro <| Rc 2 [vp [1] 0 0, vp [0] 0 0] ?_
   obtain ⟨r_5, hr_5, h⟩ := bind_s h
   have hc_5 := scan_source_word_L r_1.2 r_5 hr_5
   refine Rt (some 45) (.callf 75) [] none [.ptr [0] 0 0] (.w r_5.1) [([0], some (.cells [.d (.sl (mY r_5.2.b)), .i r_5.2.at_] 0))] (cut_call (call_of (ws := []) (us := [([0], some (.cells [.d (.sl (mY r_5.2.b)), .i r_5.2.at_] 0))]) (by kernel_rfl) (by kernel_rfl) hc_5 (by kernel_rfl) (by kernel_rfl))) <| Rc 3 [vp [1] 0 0, vp [1] 0 7, ⟨.tup [], [([1], some (.cells [.b i_.Lock, .i i_.Rep, .i i_.Seg, .y i_.Op, .i (shrI .i64 (IntKind.wrap .i64 r_1.1) 6), .i (bitsOp .and .i64 (shrI .i64 (IntKind.wrap .i64 r_1.1) 3) 7), .i (bitsOp .and .i64 (IntKind.wrap .i64 r_1.1) 7), .w r_5.1, .w i_.Imm, .w i_.Sel] 0))]⟩] <| Rd <| kB_nrm <| kS_nrm <| Runs.gnil ?_
   obtain rfl := sj h
   exact ⟨Out.nrm_ne, (by kernel_rfl)⟩
  | false =>
   replace h := ite_f hb_2 h
   refine Cf <| Runs.skip <| kB_nrm <| kS_nrm <| Runs.gnil ?_
   obtain rfl := sj h
   exact ⟨Out.nrm_ne, (by kernel_rfl)⟩
theorem scan_source_second_L (s_ : Source) (i_ : Inst) (r : (Inst × Source)) (h : scan_source_second s_ i_ = some r) : L0 70 [.ptr [.d (.sl (mY s_.b)), .i s_.at_], .ptr [.b i_.Lock, .i i_.Rep, .i i_.Seg, .y i_.Op, .i i_.Mod, .i i_.Reg, .i i_.RM, .w i_.Disp, .w i_.Imm, .w i_.Sel]] = some (.tup [], [.ptr [.d (.sl (mY r.2.b)), .i r.2.at_], .ptr [.b r.1.Lock, .i r.1.Rep, .i r.1.Seg, .y r.1.Op, .i r.1.Mod, .i r.1.Reg, .i r.1.RM, .w r.1.Disp, .w r.1.Imm, .w r.1.Sel]]) := by
 obtain ⟨p, ⟨hne, hf⟩, hr⟩ := scan_source_second_ok s_ i_ r h
 obtain ⟨k, hk⟩ := run_of (F := F70) (args := [.ptr [.d (.sl (mY s_.b)), .i s_.at_], .ptr [.b i_.Lock, .i i_.Rep, .i i_.Seg, .y i_.Op, .i i_.Mod, .i i_.Reg, .i i_.RM, .w i_.Disp, .w i_.Imm, .w i_.Sel]]) (ap := [.ptr [0] 0 0, .ptr [1] 0 0]) (bx0 := updW (fun _ => none) [([0], some (.cells [.d (.sl (mY s_.b)), .i s_.at_] 0)), ([1], some (.cells [.b i_.Lock, .i i_.Rep, .i i_.Seg, .y i_.Op, .i i_.Mod, .i i_.Reg, .i i_.RM, .w i_.Disp, .w i_.Imm, .w i_.Sel] 0))]) rfl rfl (by kernel_rfl) ⟨p, ⟨hne, hf⟩, hr⟩
 exact lim_run (k := k) rfl hk
def isa_Immediate_h16 (t3 : Int) (t4 : Bool) : St := ⟨tab [(3, .i t3), (4, .b t4)], tabB []⟩
def isa_Immediate_Q (op_ : Int) (r : Int) (p : Out × St) : Prop := (∀ i, p.1 ≠ .exit i) ∧ finF F17 [.i op_] p.2 = some (.i r, [.i op_])
theorem isa_Immediate_j16_ok (op_ : Int) (t3 : Int) (t4 : Bool) (r : Int) (h : isa_Immediate_j16 t3 t4 = some r) : Runs L0 F17b16 (isa_Immediate_h16 t3 t4) (kB 0 (kS L0 F17c45 (isa_Immediate_Q op_ r))) := by
 unfold isa_Immediate_j16 at h
 cases hb_2 : (t4 : Bool) with
 | true =>
  replace h := ite_t hb_2 h
  refine Ct <| Sq <| Ro <| Rc 1 [vi 1] <| Rk <| Runs.ret <| kB_ret <| kS_ret ?_
  cases h
  exact Fq
 | false =>
  replace h := ite_f hb_2 h
  refine Cf <| Sq <| Sq <| Ro <| Rc 2 [vb (t3 == 7), vb (t3 == 7)] <| Rk ?_
  cases hb_3 : ((t3 == 7) : Bool) with
  | true =>
   replace h := ite_t hb_3 h
   refine Ct <| Runs.skip <| kS_nrm <| Ct <| Sq <| Ro <| Rc 1 [vi 2] <| Rk <| Runs.ret <| kB_ret <| kS_ret ?_
   cases h
   exact Fq
  | false =>
   replace h := ite_f hb_3 h
   refine Cf <| Sq <| Ro <| Rc 2 [vb (t3 == 10), vb (t3 == 10)] <| Rk ?_
   cases hb_4 : ((t3 == 10) : Bool) with
   | true =>
    replace h := ite_t hb_4 h
    refine Ct <| Runs.skip <| kS_nrm <| Ct <| Sq <| Ro <| Rc 1 [vi 2] <| Rk <| Runs.ret <| kB_ret <| kS_ret ?_
    cases h
    exact Fq
   | false =>
    replace h := ite_f hb_4 h
    refine Cf <| Sq <| Ro <| Rc 2 [vb (t3 == 12), vb (t3 == 12)] <| Rk ?_
    cases hb_5 : ((t3 == 12) : Bool) with
    | true =>
     replace h := ite_t hb_5 h
     refine Ct <| Runs.skip <| kS_nrm <| Ct <| Sq <| Ro <| Rc 1 [vi 2] <| Rk <| Runs.ret <| kB_ret <| kS_ret ?_
     cases h
     exact Fq
    | false =>
     replace h := ite_f hb_5 h
     refine Cf <| Ro <| Rc 2 [vb (t3 == 13), vb (t3 == 13)] <| Rk ?_
     cases hb_6 : ((t3 == 13) : Bool) with
     | true =>
      replace h := ite_t hb_6 h
      refine Ct <| Sq <| Ro <| Rc 1 [vi 2] <| Rk <| Runs.ret <| kB_ret <| kS_ret ?_
      cases h
      exact Fq
     | false =>
      replace h := ite_f hb_6 h
      refine Cf <| Sq <| Ro <| Rc 2 [vb (t3 == 11), vb (t3 == 11)] <| Rk ?_
      cases hb_7 : ((t3 == 11) : Bool) with
      | true =>
       replace h := ite_t hb_7 h
       refine Ct <| Sq <| Ro <| Rc 1 [vi 4] <| Rk <| Runs.ret <| kB_ret <| kS_ret ?_
       cases h
       exact Fq
      | false =>
       replace h := ite_f hb_7 h
       refine Cf <| Runs.skip <| kB_nrm <| kS_nrm <| Sq <| Ro <| Rc 1 [vi 0] <| Rk <| Runs.ret ?_
       cases h
       exact Fq
theorem isa_Immediate_ok (op_ : Int) (r : Int) (h : isa_Immediate op_ = some r) : Runs L0 F17.body ⟨tmOf [.i op_] 0, updW (fun _ => none) []⟩ (isa_Immediate_Q op_ r) := by
 unfold isa_Immediate at h
 refine Sq <| Ro <| Rc 1 [vi 0] <| Rk <| Sq <| Sq <| Ro <| Rc 1 [vi op_] <| Rk <| Runs.block <| Sq <| Sq <| Ro <| Rc 2 [vb (op_ == 6), vb (op_ == 6)] <| Rk ?_
 cases hb_1 : ((op_ == 6) : Bool) with
 | true =>
  replace h := ite_t hb_1 h
  refine Ct <| Runs.skip <| kS_nrm <| Runs.canon (isa_Immediate_h16 op_ true) Cz ?_
  exact isa_Immediate_j16_ok op_ op_ true r h
 | false =>
  replace h := ite_f hb_1 h
  refine Cf <| Sq <| Ro <| Rc 2 [vb (op_ == 8), vb (op_ == 8)] <| Rk ?_
  cases hb_8 : ((op_ == 8) : Bool) with
  | true =>
   replace h := ite_t hb_8 h
   refine Ct <| Runs.skip <| kS_nrm <| Runs.canon (isa_Immediate_h16 op_ true) Cz ?_
   exact isa_Immediate_j16_ok op_ op_ true r h
  | false =>
   replace h := ite_f hb_8 h
   refine Cf <| Ro <| Rc 2 [vb (op_ == 9), vb (op_ == 9)] <| Rk <| Runs.canon (isa_Immediate_h16 op_ (op_ == 9)) Cz ?_
   exact isa_Immediate_j16_ok op_ op_ (op_ == 9) r h
theorem isa_Immediate_L (op_ : Int) (r : Int) (h : isa_Immediate op_ = some r) : L0 17 [.i op_] = some (.i r, [.i op_]) := by
 obtain ⟨p, ⟨hne, hf⟩, hr⟩ := isa_Immediate_ok op_ r h
 obtain ⟨k, hk⟩ := run_of (F := F17) (args := [.i op_]) (ap := [.i op_]) (bx0 := updW (fun _ => none) []) rfl rfl (by kernel_rfl) ⟨p, ⟨hne, hf⟩, hr⟩
 exact lim_run (k := k) rfl hk
def inst_Imms_Q (r_ : Row) (r : Int) (p : Out × St) : Prop := (∀ i, p.1 ≠ .exit i) ∧ finF F64 [.d (Row.d r_)] p.2 = some (.i r, [.d (Row.d r_)])
theorem inst_Imms_ok (r_ : Row) (r : Int) (h : inst_Imms r_ = some r) : Runs L0 F64.body ⟨tmOf [.d (Row.d r_)] 0, updW (fun _ => none) []⟩ (inst_Imms_Q r_ r) := by
 unfold inst_Imms at h
 refine Sq <| Ro <| Rc 2 [⟨.ptr [1] 0 0, [([1], some (.cells [.i r_.Name, .i r_.A, .i r_.B, .b r_.Mod] 0))]⟩, vi 0] <| Rk <| Sq <| Ro <| Rc 2 [vp [1] 0 1, vi r_.A] ?_
 obtain ⟨r_1, hr_1, h⟩ := bind_s h
 have hc_1 := isa_Immediate_L r_.A r_1 hr_1
 refine Rt (some 5) (.callf 17) [] (some []) [.i r_.A] (.i r_1) [] (cc hc_1) <| Rc 2 [vp [1] 0 2, vi r_.B] ?_
 obtain ⟨r_2, hr_2, h⟩ := bind_s h
 have hc_2 := isa_Immediate_L r_.B r_2 hr_2
 refine Rt (some 8) (.callf 17) [] none [.i r_.B] (.i r_2) [] (cc hc_2) <| Rc 2 [vi (IntKind.wrap .i64 (r_1 + r_2)), vi (IntKind.wrap .i64 (r_1 + r_2))] <| Rk <| Runs.ret ?_
 cases h
 exact Fq
theorem inst_Imms_L (r_ : Row) (r : Int) (h : inst_Imms r_ = some r) : L0 64 [.d (Row.d r_)] = some (.i r, [.d (Row.d r_)]) := by
 obtain ⟨p, ⟨hne, hf⟩, hr⟩ := inst_Imms_ok r_ r h
 obtain ⟨k, hk⟩ := run_of (F := F64) (args := [.d (Row.d r_)]) (ap := [.d (Row.d r_)]) (bx0 := updW (fun _ => none) []) rfl rfl (by kernel_rfl) ⟨p, ⟨hne, hf⟩, hr⟩
 exact lim_run (k := k) rfl hk
def bits_Low_Q (w_ : Int) (r : Int) (p : Out × St) : Prop := (∀ i, p.1 ≠ .exit i) ∧ finF F73 [.w w_] p.2 = some (.y r, [.w w_])
theorem bits_Low_ok (w_ : Int) (r : Int) (h : bits_Low w_ = some r) : Runs L0 F73.body ⟨tmOf [.w w_] 0, updW (fun _ => none) []⟩ (bits_Low_Q w_ r) := by
 unfold bits_Low at h
 refine Sq <| Ro <| Rc 1 [vy 0] <| Rk <| Sq <| Ro <| Rc 3 [vw w_, vy (IntKind.wrap .u8 w_), vy (IntKind.wrap .u8 w_)] <| Rk <| Runs.ret ?_
 cases h
 exact Fq
theorem bits_Low_L (w_ : Int) (r : Int) (h : bits_Low w_ = some r) : L0 73 [.w w_] = some (.y r, [.w w_]) := by
 obtain ⟨p, ⟨hne, hf⟩, hr⟩ := bits_Low_ok w_ r h
 obtain ⟨k, hk⟩ := run_of (F := F73) (args := [.w w_]) (ap := [.w w_]) (bx0 := updW (fun _ => none) []) rfl rfl (by kernel_rfl) ⟨p, ⟨hne, hf⟩, hr⟩
 exact lim_run (k := k) rfl hk
def scan_source_behind_Q (s_ : Source) (i_ : Inst) (r_ : Row) (r : (Inst × Source)) (p : Out × St) : Prop := (∀ i, p.1 ≠ .exit i) ∧ finF F71 [.ptr [0] 0 0, .ptr [1] 0 0, .d (Row.d r_)] p.2 = some (.tup [], [.ptr [.d (.sl (mY r.2.b)), .i r.2.at_], .ptr [.b r.1.Lock, .i r.1.Rep, .i r.1.Seg, .y r.1.Op, .i r.1.Mod, .i r.1.Reg, .i r.1.RM, .w r.1.Disp, .w r.1.Imm, .w r.1.Sel], .d (Row.d r_)])
theorem scan_source_behind_ok (s_ : Source) (i_ : Inst) (r_ : Row) (r : (Inst × Source)) (h : scan_source_behind s_ i_ r_ = some r) : Runs L0 F71.body ⟨tmOf [.ptr [0] 0 0, .ptr [1] 0 0, .d (Row.d r_)] 0, updW (fun _ => none) [([0], some (.cells [.d (.sl (mY s_.b)), .i s_.at_] 0)), ([1], some (.cells [.b i_.Lock, .i i_.Rep, .i i_.Seg, .y i_.Op, .i i_.Mod, .i i_.Reg, .i i_.RM, .w i_.Disp, .w i_.Imm, .w i_.Sel] 0))]⟩ (scan_source_behind_Q s_ i_ r_ r) := by
 unfold scan_source_behind at h
 refine Sq <| Sq <| Ro <| Rc 1 [⟨.ptr [5] 0 0, [([5], some (.cells [.i r_.Name, .i r_.A, .i r_.B, .b r_.Mod] 0))]⟩] <| Rk <| Sq <| Ro <| Rc 1 [⟨.d (Row.d r_), []⟩] ?_
 obtain ⟨r_1, hr_1, h⟩ := bind_s h
 have hc_1 := inst_Imms_L r_ r_1 hr_1
 refine Rt (some 7) (.callf 64) [] none [.d (Row.d r_)] (.i r_1) [] (cc hc_1) <| Rk <| Runs.block <| Sq <| Ro <| Rc 2 [vb (r_1 == 1), vb (r_1 == 1)] <| Rk ?_
 cases hb_1 : ((r_1 == 1) : Bool) with
 | true =>
  replace h := ite_t hb_1 h
  refine Ct <| Sq <| Ro <| Rc 2 [vp [1] 0 0, vp [0] 0 0] ?_
  obtain ⟨r_2, hr_2, h⟩ := bind_s h
  have hc_2 := scan_source_next_L s_ r_2 hr_2
  refine Rt (some 12) (.callf 74) [] none [.ptr [0] 0 0] (.y r_2.1) [([0], some (.cells [.d (.sl (mY r_2.2.b)), .i r_2.2.at_] 0))] (cut_call (call_of (ws := []) (us := [([0], some (.cells [.d (.sl (mY r_2.2.b)), .i r_2.2.at_] 0))]) (by kernel_rfl) (by kernel_rfl) hc_2 (by kernel_rfl) (by kernel_rfl))) <| Rc 4 [vw (IntKind.wrap .u16 r_2.1), vp [1] 0 0, vp [1] 0 8, ⟨.tup [], [([1], some (.cells [.b i_.Lock, .i i_.Rep, .i i_.Seg, .y i_.Op, .i i_.Mod, .i i_.Reg, .i i_.RM, .w i_.Disp, .w (IntKind.wrap .u16 r_2.1), .w i_.Sel] 0))]⟩] <| Rk <| Sq <| Ro <| Rc 4 [vp [5] 0 1, vi r_.A, vb (r_.A == 9), vb (r_.A == 9)] ?_
  cases hb_2 : ((r_.A == 9) : Bool) with
  | true =>
   replace h := ite_t hb_2 h
   refine Rc 4 [vn, vn, vn, vb true] <| Rk <| Ct <| Ro <| Rc 5 [vp [1] 0 0, vp [1] 0 0, vp [1] 0 0, vp [1] 0 8, vw (IntKind.wrap .u16 r_2.1)] ?_
   obtain ⟨r_3, hr_3, h⟩ := bind_s h
   have hc_3 := bits_Low_L (IntKind.wrap .u16 r_2.1) r_3 hr_3
   refine Rt (some 29) (.callf 73) [] none [.w (IntKind.wrap .u16 r_2.1)] (.y r_3) [] (cc hc_3) ?_
   obtain ⟨r_4, hr_4, h⟩ := bind_s h
   have hc_4 := bits_Sign_L r_3 r_4 hr_4
   refine Rt (some 30) (.callf 72) [] none [.y r_3] (.w r_4) [] (cc hc_4) <| Rc 3 [vp [1] 0 0, vp [1] 0 8, ⟨.tup [], [([1], some (.cells [.b i_.Lock, .i i_.Rep, .i i_.Seg, .y i_.Op, .i i_.Mod, .i i_.Reg, .i i_.RM, .w i_.Disp, .w r_4, .w i_.Sel] 0))]⟩] <| Rd <| kB_nrm <| kS_nrm <| Runs.gnil ?_
   obtain rfl := sj h
   exact ⟨Out.nrm_ne, (by kernel_rfl)⟩
  | false =>
   replace h := ite_f hb_2 h
   refine Rc 4 [vp [5] 0 2, vi r_.B, vb (r_.B == 8), vb (r_.B == 8)] <| Rk ?_
   cases hb_3 : ((r_.B == 8) : Bool) with
   | true =>
    replace h := ite_t hb_3 h
    refine Ct <| Ro <| Rc 5 [vp [1] 0 0, vp [1] 0 0, vp [1] 0 0, vp [1] 0 8, vw (IntKind.wrap .u16 r_2.1)] ?_
    obtain ⟨r_5, hr_5, h⟩ := bind_s h
    have hc_5 := bits_Low_L (IntKind.wrap .u16 r_2.1) r_5 hr_5
    refine Rt (some 29) (.callf 73) [] none [.w (IntKind.wrap .u16 r_2.1)] (.y r_5) [] (cc hc_5) ?_
    obtain ⟨r_6, hr_6, h⟩ := bind_s h
    have hc_6 := bits_Sign_L r_5 r_6 hr_6
    refine Rt (some 30) (.callf 72) [] none [.y r_5] (.w r_6) [] (cc hc_6) <| Rc 3 [vp [1] 0 0, vp [1] 0 8, ⟨.tup [], [([1], some (.cells [.b i_.Lock, .i i_.Rep, .i i_.Seg, .y i_.Op, .i i_.Mod, .i i_.Reg, .i i_.RM, .w i_.Disp, .w r_6, .w i_.Sel] 0))]⟩] <| Rd <| kB_nrm <| kS_nrm <| Runs.gnil ?_
    obtain rfl := sj h
    exact ⟨Out.nrm_ne, (by kernel_rfl)⟩
   | false =>
    replace h := ite_f hb_3 h
    refine Cf <| Runs.skip <| kB_nrm <| kS_nrm <| Runs.gnil ?_
    obtain rfl := sj h
    exact ⟨Out.nrm_ne, (by kernel_rfl)⟩
 | false =>
  replace h := ite_f hb_1 h
  refine Cf <| Sq <| Ro <| Rc 2 [vb (r_1 == 2), vb (r_1 == 2)] <| Rk ?_
  cases hb_4 : ((r_1 == 2) : Bool) with
  | true =>
   replace h := ite_t hb_4 h
   refine Ct <| Ro <| Rc 2 [vp [1] 0 0, vp [0] 0 0] ?_
   obtain ⟨r_7, hr_7, h⟩ := bind_s h
   have hc_7 := scan_source_word_L s_ r_7 hr_7
   refine Rt (some 37) (.callf 75) [] none [.ptr [0] 0 0] (.w r_7.1) [([0], some (.cells [.d (.sl (mY r_7.2.b)), .i r_7.2.at_] 0))] (cut_call (call_of (ws := []) (us := [([0], some (.cells [.d (.sl (mY r_7.2.b)), .i r_7.2.at_] 0))]) (by kernel_rfl) (by kernel_rfl) hc_7 (by kernel_rfl) (by kernel_rfl))) <| Rc 3 [vp [1] 0 0, vp [1] 0 8, ⟨.tup [], [([1], some (.cells [.b i_.Lock, .i i_.Rep, .i i_.Seg, .y i_.Op, .i i_.Mod, .i i_.Reg, .i i_.RM, .w i_.Disp, .w r_7.1, .w i_.Sel] 0))]⟩] <| Rd <| kB_nrm <| kS_nrm <| Runs.gnil ?_
   obtain rfl := sj h
   exact ⟨Out.nrm_ne, (by kernel_rfl)⟩
  | false =>
   replace h := ite_f hb_4 h
   refine Cf <| Sq <| Ro <| Rc 2 [vb (r_1 == 4), vb (r_1 == 4)] <| Rk ?_
   cases hb_5 : ((r_1 == 4) : Bool) with
   | true =>
    replace h := ite_t hb_5 h
    refine Ct <| Sq <| Ro <| Rc 2 [vp [1] 0 0, vp [0] 0 0] ?_
    obtain ⟨r_8, hr_8, h⟩ := bind_s h
    have hc_8 := scan_source_word_L s_ r_8 hr_8
    refine Rt (some 44) (.callf 75) [] none [.ptr [0] 0 0] (.w r_8.1) [([0], some (.cells [.d (.sl (mY r_8.2.b)), .i r_8.2.at_] 0))] (cut_call (call_of (ws := []) (us := [([0], some (.cells [.d (.sl (mY r_8.2.b)), .i r_8.2.at_] 0))]) (by kernel_rfl) (by kernel_rfl) hc_8 (by kernel_rfl) (by kernel_rfl))) <| Rc 3 [vp [1] 0 0, vp [1] 0 8, ⟨.tup [], [([1], some (.cells [.b i_.Lock, .i i_.Rep, .i i_.Seg, .y i_.Op, .i i_.Mod, .i i_.Reg, .i i_.RM, .w i_.Disp, .w r_8.1, .w i_.Sel] 0))]⟩] <| Rk <| Ro <| Rc 2 [vp [1] 0 0, vp [0] 0 0] ?_
    obtain ⟨r_9, hr_9, h⟩ := bind_s h
    have hc_9 := scan_source_word_L r_8.2 r_9 hr_9
    refine Rt (some 49) (.callf 75) [] none [.ptr [0] 0 0] (.w r_9.1) [([0], some (.cells [.d (.sl (mY r_9.2.b)), .i r_9.2.at_] 0))] (cut_call (call_of (ws := []) (us := [([0], some (.cells [.d (.sl (mY r_9.2.b)), .i r_9.2.at_] 0))]) (by kernel_rfl) (by kernel_rfl) hc_9 (by kernel_rfl) (by kernel_rfl))) <| Rc 3 [vp [1] 0 0, vp [1] 0 9, ⟨.tup [], [([1], some (.cells [.b i_.Lock, .i i_.Rep, .i i_.Seg, .y i_.Op, .i i_.Mod, .i i_.Reg, .i i_.RM, .w i_.Disp, .w r_8.1, .w r_9.1] 0))]⟩] <| Rd <| kB_nrm <| kS_nrm <| Runs.gnil ?_
    obtain rfl := sj h
    exact ⟨Out.nrm_ne, (by kernel_rfl)⟩
   | false =>
    replace h := ite_f hb_5 h
    refine Cf <| Runs.skip <| kB_nrm <| kS_nrm <| Runs.gnil ?_
    obtain rfl := sj h
    exact ⟨Out.nrm_ne, (by kernel_rfl)⟩
theorem scan_source_behind_L (s_ : Source) (i_ : Inst) (r_ : Row) (r : (Inst × Source)) (h : scan_source_behind s_ i_ r_ = some r) : L0 71 [.ptr [.d (.sl (mY s_.b)), .i s_.at_], .ptr [.b i_.Lock, .i i_.Rep, .i i_.Seg, .y i_.Op, .i i_.Mod, .i i_.Reg, .i i_.RM, .w i_.Disp, .w i_.Imm, .w i_.Sel], .d (Row.d r_)] = some (.tup [], [.ptr [.d (.sl (mY r.2.b)), .i r.2.at_], .ptr [.b r.1.Lock, .i r.1.Rep, .i r.1.Seg, .y r.1.Op, .i r.1.Mod, .i r.1.Reg, .i r.1.RM, .w r.1.Disp, .w r.1.Imm, .w r.1.Sel], .d (Row.d r_)]) := by
 obtain ⟨p, ⟨hne, hf⟩, hr⟩ := scan_source_behind_ok s_ i_ r_ r h
 obtain ⟨k, hk⟩ := run_of (F := F71) (args := [.ptr [.d (.sl (mY s_.b)), .i s_.at_], .ptr [.b i_.Lock, .i i_.Rep, .i i_.Seg, .y i_.Op, .i i_.Mod, .i i_.Reg, .i i_.RM, .w i_.Disp, .w i_.Imm, .w i_.Sel], .d (Row.d r_)]) (ap := [.ptr [0] 0 0, .ptr [1] 0 0, .d (Row.d r_)]) (bx0 := updW (fun _ => none) [([0], some (.cells [.d (.sl (mY s_.b)), .i s_.at_] 0)), ([1], some (.cells [.b i_.Lock, .i i_.Rep, .i i_.Seg, .y i_.Op, .i i_.Mod, .i i_.Reg, .i i_.RM, .w i_.Disp, .w i_.Imm, .w i_.Sel] 0))]) rfl rfl (by kernel_rfl) ⟨p, ⟨hne, hf⟩, hr⟩
 exact lim_run (k := k) rfl hk
def inst_Row_Q (i_ : Inst) (r : (Row × Bool)) (p : Out × St) : Prop := (∀ i, p.1 ≠ .exit i) ∧ finF F60 [.d (Inst.d i_)] p.2 = some (.tup [.d (Row.d r.1), .b r.2], [.d (Inst.d i_)])
theorem inst_Row_ok (i_ : Inst) (r : (Row × Bool)) (h : inst_Row i_ = some r) : Runs L0 F60.body ⟨tmOf [.d (Inst.d i_)] 0, updW (fun _ => none) []⟩ (inst_Row_Q i_ r) := by
 unfold inst_Row at h
 refine Sq <| Ro <| Rc 3 [⟨.ptr [1] 0 0, [([1], some (.cells [.b i_.Lock, .i i_.Rep, .i i_.Seg, .y i_.Op, .i i_.Mod, .i i_.Reg, .i i_.RM, .w i_.Disp, .w i_.Imm, .w i_.Sel] 0))]⟩, ⟨.ptr [2] 0 0, [([2], some (.cells [.i 0, .i 0, .i 0, .b false] 0))]⟩, vb false] <| Rk <| Sq <| Sq <| Ro <| Rc 2 [vp [1] 0 3, vy i_.Op] ?_
 obtain ⟨r_1, hr_1, h⟩ := bind_s h
 have hc_1 := isa_Prefix_L i_.Op r_1 hr_1
 refine Rt (some 6) (.callf 20) [] none [.y i_.Op] (.b r_1) [] (cc hc_1) <| Rk ?_
 cases hb_1 : (r_1 : Bool) with
 | true =>
  replace h := ite_t hb_1 h
  refine Ct <| Sq <| Ro <| Rc 3 [⟨.d (.agg [.int .i64 0, .int .i64 0, .int .i64 0, .bool false]), []⟩, ⟨.tup [], [([2], some (.cells [.i 0, .i 0, .i 0, .b false] 0))]⟩, vb false] <| Rk <| Runs.ret <| kS_ret ?_
  cases h
  exact Fq
 | false =>
  replace h := ite_f hb_1 h
  refine Cf <| Runs.skip <| kS_nrm <| Sq <| Ro <| Rc 4 [vp [1] 0 3, vy i_.Op, vp [1] 0 5, vi i_.Reg] ?_
  obtain ⟨r_2, hr_2, h⟩ := bind_s h
  have hc_2 := isa_Of_L i_.Op i_.Reg r_2 hr_2
  refine Rt (some 12) (.callf 11) [] none [.y i_.Op, .i i_.Reg] (.tup [.d (Row.d r_2.1), .b r_2.2]) [] (cc hc_2) <| Rc 4 [⟨.d (Row.d r_2.1), []⟩, vb r_2.2, ⟨.tup [], [([2], some (.cells [.i r_2.1.Name, .i r_2.1.A, .i r_2.1.B, .b r_2.1.Mod] 0))]⟩, vb r_2.2] <| Rk <| Runs.ret ?_
  cases h
  exact Fq
theorem inst_Row_L (i_ : Inst) (r : (Row × Bool)) (h : inst_Row i_ = some r) : L0 60 [.d (Inst.d i_)] = some (.tup [.d (Row.d r.1), .b r.2], [.d (Inst.d i_)]) := by
 obtain ⟨p, ⟨hne, hf⟩, hr⟩ := inst_Row_ok i_ r h
 obtain ⟨k, hk⟩ := run_of (F := F60) (args := [.d (Inst.d i_)]) (ap := [.d (Inst.d i_)]) (bx0 := updW (fun _ => none) []) rfl rfl (by kernel_rfl) ⟨p, ⟨hne, hf⟩, hr⟩
 exact lim_run (k := k) rfl hk
def bits_Fits_Q (w_ : Int) (r : Bool) (p : Out × St) : Prop := (∀ i, p.1 ≠ .exit i) ∧ finF F68 [.w w_] p.2 = some (.b r, [.w w_])
theorem bits_Fits_ok (w_ : Int) (r : Bool) (h : bits_Fits w_ = some r) : Runs L0 F68.body ⟨tmOf [.w w_] 0, updW (fun _ => none) []⟩ (bits_Fits_Q w_ r) := by
 unfold bits_Fits at h
 refine Sq <| Ro <| Rc 1 [vb false] <| Rk <| Sq <| Ro <| Rc 1 [vw w_] ?_
 obtain ⟨r_1, hr_1, h⟩ := bind_s h
 have hc_1 := bits_Low_L w_ r_1 hr_1
 refine Rt (some 4) (.callf 73) [] none [.w w_] (.y r_1) [] (cc hc_1) ?_
 obtain ⟨r_2, hr_2, h⟩ := bind_s h
 have hc_2 := bits_Sign_L r_1 r_2 hr_2
 refine Rt (some 5) (.callf 72) [] none [.y r_1] (.w r_2) [] (cc hc_2) <| Rc 3 [vw w_, vb (r_2 == w_), vb (r_2 == w_)] <| Rk <| Runs.ret ?_
 cases h
 exact Fq
theorem bits_Fits_L (w_ : Int) (r : Bool) (h : bits_Fits w_ = some r) : L0 68 [.w w_] = some (.b r, [.w w_]) := by
 obtain ⟨p, ⟨hne, hf⟩, hr⟩ := bits_Fits_ok w_ r h
 obtain ⟨k, hk⟩ := run_of (F := F68) (args := [.w w_]) (ap := [.w w_]) (bx0 := updW (fun _ => none) []) rfl rfl (by kernel_rfl) ⟨p, ⟨hne, hf⟩, hr⟩
 exact lim_run (k := k) rfl hk
def inst_second_h26 (i2 : Inst) : St := ⟨tab [(2, .ptr [2] 0 0)], tabB [([2], some (.cells [.b i2.Lock, .i i2.Rep, .i i2.Seg, .y i2.Op, .i i2.Mod, .i i2.Reg, .i i2.RM, .w i2.Disp, .w i2.Imm, .w i2.Sel] 0))]⟩
def inst_second_Q (i_ : Inst) (r_ : Row) (r : Bool) (p : Out × St) : Prop := (∀ i, p.1 ≠ .exit i) ∧ finF F61 [.d (Inst.d i_), .d (Row.d r_)] p.2 = some (.b r, [.d (Inst.d i_), .d (Row.d r_)])
theorem inst_second_j26_ok (i_ : Inst) (r_ : Row) (i2 : Inst) (r : Bool) (h : inst_second_j26 i2 = some r) : Runs L0 F61b26 (inst_second_h26 i2) (inst_second_Q i_ r_ r) := by
 unfold inst_second_j26 at h
 refine Sq <| Sq <| Ro <| Rc 4 [vp [2] 0 4, vi i2.Mod, vp [2] 0 6, vi i2.RM] ?_
 obtain ⟨r_1, hr_1, h⟩ := bind_s h
 have hc_1 := inst_Disps_L i2.Mod i2.RM r_1 hr_1
 refine Rt (some 76) (.callf 59) [] none [.i i2.Mod, .i i2.RM] (.i r_1) [] (cc hc_1) <| Rk <| Runs.block <| Sq <| Ro <| Rc 2 [vb (r_1 == 0), vb (r_1 == 0)] <| Rk ?_
 cases hb_15 : ((r_1 == 0) : Bool) with
 | true =>
  replace h := ite_t hb_15 h
  refine Ct <| Sq <| Ro <| Rc 4 [vp [2] 0 7, vw i2.Disp, vb (i2.Disp == 0), vb (i2.Disp == 0)] <| Rk <| Runs.ret <| kB_ret <| kS_ret ?_
  cases h
  exact Fq
 | false =>
  replace h := ite_f hb_15 h
  refine Cf <| Sq <| Ro <| Rc 2 [vb (r_1 == 1), vb (r_1 == 1)] <| Rk ?_
  cases hb_16 : ((r_1 == 1) : Bool) with
  | true =>
   replace h := ite_t hb_16 h
   refine Ct <| Sq <| Ro <| Rc 2 [vp [2] 0 7, vw i2.Disp] ?_
   obtain ⟨r_2, hr_2, h⟩ := bind_s h
   have hc_2 := bits_Fits_L i2.Disp r_2 hr_2
   refine Rt (some 86) (.callf 68) [] none [.w i2.Disp] (.b r_2) [] (cc hc_2) <| Rc 1 [vb r_2] <| Rk <| Runs.ret <| kB_ret <| kS_ret ?_
   cases h
   exact Fq
  | false =>
   replace h := ite_f hb_16 h
   refine Cf <| Runs.skip <| kB_nrm <| kS_nrm <| Sq <| Ro <| Rc 1 [vb true] <| Rk <| Runs.ret ?_
   cases h
   exact Fq
theorem inst_second_ok (i_ : Inst) (r_ : Row) (r : Bool) (h : inst_second i_ r_ = some r) : Runs L0 F61.body ⟨tmOf [.d (Inst.d i_), .d (Row.d r_)] 0, updW (fun _ => none) []⟩ (inst_second_Q i_ r_ r) := by
 unfold inst_second at h
 refine Sq <| Ro <| Rc 3 [⟨.ptr [2] 0 0, [([2], some (.cells [.b i_.Lock, .i i_.Rep, .i i_.Seg, .y i_.Op, .i i_.Mod, .i i_.Reg, .i i_.RM, .w i_.Disp, .w i_.Imm, .w i_.Sel] 0))]⟩, ⟨.ptr [3] 0 0, [([3], some (.cells [.i r_.Name, .i r_.A, .i r_.B, .b r_.Mod] 0))]⟩, vb false] <| Rk <| Sq <| Sq <| Ro <| Rc 3 [vp [3] 0 3, vb r_.Mod, vb (!r_.Mod)] <| Rk ?_
 cases hb_1 : ((!r_.Mod) : Bool) with
 | true =>
  replace h := ite_t hb_1 h
  refine Ct <| Sq <| Ro <| Rc 4 [vp [2] 0 4, vi i_.Mod, vb (i_.Mod == 0), vb (i_.Mod == 0)] ?_
  cases hb_2 : ((i_.Mod == 0) : Bool) with
  | true =>
   replace h := ite_t hb_2 h
   refine Rc 5 [vp [2] 0 5, vi i_.Reg, vb (i_.Reg == 0), vb (i_.Reg == 0), vb (i_.Reg == 0)] ?_
   cases hb_3 : ((i_.Reg == 0) : Bool) with
   | true =>
    replace h := ite_t hb_3 h
    refine Rc 5 [vp [2] 0 6, vi i_.RM, vb (i_.RM == 0), vb (i_.RM == 0), vb (i_.RM == 0)] ?_
    cases hb_4 : ((i_.RM == 0) : Bool) with
    | true =>
     replace h := ite_t hb_4 h
     refine Rc 5 [vp [2] 0 7, vw i_.Disp, vb (i_.Disp == 0), vb (i_.Disp == 0), vb (i_.Disp == 0)] <| Rk <| Runs.ret <| kS_ret ?_
     cases h
     exact Fq
    | false =>
     replace h := ite_f hb_4 h
     refine Rc 5 [vn, vn, vn, vb false, vb false] <| Rk <| Runs.ret <| kS_ret ?_
     cases h
     exact Fq
   | false =>
    replace h := ite_f hb_3 h
    refine Rc 10 [vn, vn, vn, vb false, vb false, vn, vn, vn, vb false, vb false] <| Rk <| Runs.ret <| kS_ret ?_
    cases h
    exact Fq
  | false =>
   replace h := ite_f hb_2 h
   refine Rc 15 [vn, vn, vn, vb false, vb false, vn, vn, vn, vb false, vb false, vn, vn, vn, vb false, vb false] <| Rk <| Runs.ret <| kS_ret ?_
   cases h
   exact Fq
 | false =>
  replace h := ite_f hb_1 h
  refine Cf <| Runs.skip <| kS_nrm <| Sq <| Sq <| Ro <| Rc 4 [vp [2] 0 4, vi i_.Mod, vb (decide (i_.Mod < 0)), vb (decide (i_.Mod < 0))] ?_
  cases hb_5 : ((decide (i_.Mod < 0)) : Bool) with
  | true =>
   replace h := ite_t hb_5 h
   refine Rc 24 [vn, vn, vn, vb true, vb true, vn, vn, vn, vb true, vb true, vn, vn, vn, vb true, vb true, vn, vn, vn, vb true, vb true, vn, vn, vn, vb true] <| Rk <| Ct <| Sq <| Ro <| Rc 1 [vb false] <| Rk <| Runs.ret <| kS_ret ?_
   cases h
   exact Fq
  | false =>
   replace h := ite_f hb_5 h
   refine Rc 5 [vp [2] 0 4, vi i_.Mod, vb (decide (i_.Mod > 3)), vb (decide (i_.Mod > 3)), vb (decide (i_.Mod > 3))] ?_
   cases hb_6 : ((decide (i_.Mod > 3)) : Bool) with
   | true =>
    replace h := ite_t hb_6 h
    refine Rc 19 [vn, vn, vn, vb true, vb true, vn, vn, vn, vb true, vb true, vn, vn, vn, vb true, vb true, vn, vn, vn, vb true] <| Rk <| Ct <| Sq <| Ro <| Rc 1 [vb false] <| Rk <| Runs.ret <| kS_ret ?_
    cases h
    exact Fq
   | false =>
    replace h := ite_f hb_6 h
    refine Rc 5 [vp [2] 0 5, vi i_.Reg, vb (decide (i_.Reg < 0)), vb (decide (i_.Reg < 0)), vb (decide (i_.Reg < 0))] ?_
    cases hb_7 : ((decide (i_.Reg < 0)) : Bool) with
    | true =>
     replace h := ite_t hb_7 h
     refine Rc 14 [vn, vn, vn, vb true, vb true, vn, vn, vn, vb true, vb true, vn, vn, vn, vb true] <| Rk <| Ct <| Sq <| Ro <| Rc 1 [vb false] <| Rk <| Runs.ret <| kS_ret ?_
     cases h
     exact Fq
    | false =>
     replace h := ite_f hb_7 h
     refine Rc 5 [vp [2] 0 5, vi i_.Reg, vb (decide (i_.Reg > 7)), vb (decide (i_.Reg > 7)), vb (decide (i_.Reg > 7))] ?_
     cases hb_8 : ((decide (i_.Reg > 7)) : Bool) with
     | true =>
      replace h := ite_t hb_8 h
      refine Rc 9 [vn, vn, vn, vb true, vb true, vn, vn, vn, vb true] <| Rk <| Ct <| Sq <| Ro <| Rc 1 [vb false] <| Rk <| Runs.ret <| kS_ret ?_
      cases h
      exact Fq
     | false =>
      replace h := ite_f hb_8 h
      refine Rc 5 [vp [2] 0 6, vi i_.RM, vb (decide (i_.RM < 0)), vb (decide (i_.RM < 0)), vb (decide (i_.RM < 0))] ?_
      cases hb_9 : ((decide (i_.RM < 0)) : Bool) with
      | true =>
       replace h := ite_t hb_9 h
       refine Rc 4 [vn, vn, vn, vb true] <| Rk <| Ct <| Sq <| Ro <| Rc 1 [vb false] <| Rk <| Runs.ret <| kS_ret ?_
       cases h
       exact Fq
      | false =>
       replace h := ite_f hb_9 h
       refine Rc 4 [vp [2] 0 6, vi i_.RM, vb (decide (i_.RM > 7)), vb (decide (i_.RM > 7))] <| Rk ?_
       cases hb_10 : ((decide (i_.RM > 7)) : Bool) with
       | true =>
        replace h := ite_t hb_10 h
        refine Ct <| Sq <| Ro <| Rc 1 [vb false] <| Rk <| Runs.ret <| kS_ret ?_
        cases h
        exact Fq
       | false =>
        replace h := ite_f hb_10 h
        refine Cf <| Runs.skip <| kS_nrm <| Sq <| Sq <| Ro <| Rc 4 [vp [2] 0 4, vi i_.Mod, vb (i_.Mod == 3), vb (i_.Mod == 3)] ?_
        cases hb_11 : ((i_.Mod == 3) : Bool) with
        | true =>
         replace h := ite_t hb_11 h
         refine Rc 4 [vp [3] 0 1, vi r_.A, vb (r_.A == 19), vb (r_.A == 19)] ?_
         cases hb_12 : ((r_.A == 19) : Bool) with
         | true =>
          replace h := ite_t hb_12 h
          refine Rc 10 [vn, vn, vn, vb true, vb true, vn, vn, vn, vb true, vb true] <| Rk <| Ct <| Sq <| Ro <| Rc 1 [vb false] <| Rk <| Runs.ret <| kS_ret ?_
          cases h
          exact Fq
         | false =>
          replace h := ite_f hb_12 h
          refine Rc 5 [vp [3] 0 2, vi r_.B, vb (r_.B == 19), vb (r_.B == 19), vb (r_.B == 19)] ?_
          cases hb_13 : ((r_.B == 19) : Bool) with
          | true =>
           replace h := ite_t hb_13 h
           refine Rc 5 [vn, vn, vn, vb true, vb true] <| Rk <| Ct <| Sq <| Ro <| Rc 1 [vb false] <| Rk <| Runs.ret <| kS_ret ?_
           cases h
           exact Fq
          | false =>
           replace h := ite_f hb_13 h
           refine Rc 5 [vp [3] 0 2, vi r_.B, vb (r_.B == 20), vb (r_.B == 20), vb (r_.B == 20)] <| Rk ?_
           cases hb_14 : ((r_.B == 20) : Bool) with
           | true =>
            replace h := ite_t hb_14 h
            refine Ct <| Sq <| Ro <| Rc 1 [vb false] <| Rk <| Runs.ret <| kS_ret ?_
            cases h
            exact Fq
           | false =>
            replace h := ite_f hb_14 h
            refine Cf <| Runs.skip <| kS_nrm <| Runs.canon (inst_second_h26 i_) Cz ?_
            exact inst_second_j26_ok i_ r_ i_ r h
        | false =>
         replace h := ite_f hb_11 h
         refine Rc 14 [vn, vn, vn, vn, vn, vn, vn, vn, vn, vn, vn, vn, vn, vb false] <| Rk <| Cf <| Runs.skip <| kS_nrm <| Runs.canon (inst_second_h26 i_) Cz ?_
         exact inst_second_j26_ok i_ r_ i_ r h
theorem inst_second_L (i_ : Inst) (r_ : Row) (r : Bool) (h : inst_second i_ r_ = some r) : L0 61 [.d (Inst.d i_), .d (Row.d r_)] = some (.b r, [.d (Inst.d i_), .d (Row.d r_)]) := by
 obtain ⟨p, ⟨hne, hf⟩, hr⟩ := inst_second_ok i_ r_ r h
 obtain ⟨k, hk⟩ := run_of (F := F61) (args := [.d (Inst.d i_), .d (Row.d r_)]) (ap := [.d (Inst.d i_), .d (Row.d r_)]) (bx0 := updW (fun _ => none) []) rfl rfl (by kernel_rfl) ⟨p, ⟨hne, hf⟩, hr⟩
 exact lim_run (k := k) rfl hk
def inst_behind_h6 (i2 : Inst) (r3 : Row) (t11 : (A2 Int)) (t12 : Int) : St := ⟨tab [(2, .ptr [2] 0 0), (3, .ptr [3] 0 0), (11, .d (.agg [.int .i64 t11.a0, .int .i64 t11.a1])), (12, .i t12)], tabB [([2], some (.cells [.b i2.Lock, .i i2.Rep, .i i2.Seg, .y i2.Op, .i i2.Mod, .i i2.Reg, .i i2.RM, .w i2.Disp, .w i2.Imm, .w i2.Sel] 0)), ([3], some (.cells [.i r3.Name, .i r3.A, .i r3.B, .b r3.Mod] 0))]⟩
def inst_behind_h32 (i2 : Inst) (r3 : Row) (t11 : (A2 Int)) (t12 : Int) (t15 : Int) (t41 : Bool) : St := ⟨tab [(2, .ptr [2] 0 0), (3, .ptr [3] 0 0), (11, .d (.agg [.int .i64 t11.a0, .int .i64 t11.a1])), (12, .i t12), (15, .i t15), (41, .b t41)], tabB [([2], some (.cells [.b i2.Lock, .i i2.Rep, .i i2.Seg, .y i2.Op, .i i2.Mod, .i i2.Reg, .i i2.RM, .w i2.Disp, .w i2.Imm, .w i2.Sel] 0)), ([3], some (.cells [.i r3.Name, .i r3.A, .i r3.B, .b r3.Mod] 0))]⟩
def inst_behind_h62 (i2 : Inst) : St := ⟨tab [(2, .ptr [2] 0 0)], tabB [([2], some (.cells [.b i2.Lock, .i i2.Rep, .i i2.Seg, .y i2.Op, .i i2.Mod, .i i2.Reg, .i i2.RM, .w i2.Disp, .w i2.Imm, .w i2.Sel] 0))]⟩
def inst_behind_Q (i_ : Inst) (r_ : Row) (r : Bool) (p : Out × St) : Prop := (∀ i, p.1 ≠ .exit i) ∧ finF F62 [.d (Inst.d i_), .d (Row.d r_)] p.2 = some (.b r, [.d (Inst.d i_), .d (Row.d r_)])
def inst_behind_P6 (i_ : Inst) (r_ : Row) (i2 : Inst) (r3 : Row) (t11 : (A2 Int)) (e : (Bool ⊕ Unit)) (p : Out × St) : Prop := match e with
 | .inl x => p.1 = .ret ∧ finF F62 [.d (Inst.d i_), .d (Row.d r_)] p.2 = some (.b x, [.d (Inst.d i_), .d (Row.d r_)])
 | .inr x => p.1 = .exit 0 ∧ ∃ g : Unit, Canon [] [2] [[2]] p.2 (inst_behind_h62 i2)
theorem inst_behind_j32_ok (i_ : Inst) (r_ : Row) (i2 : Inst) (r3 : Row) (t11 : (A2 Int)) (t12 : Int) (t15 : Int) (t41 : Bool) (r : (Lp Int (Bool ⊕ Unit))) (h : inst_behind_j32 i2 r3 t11 t12 t15 t41 = some r) : Runs L0 F62b32 (inst_behind_h32 i2 r3 t11 t12 t15 t41) (kB 2 (kB 1 (kS L0 F62c61 (LQ [] [2, 3, 11, 12] [[2], [3]] (fun (x : Int) (g : Unit) => inst_behind_h6 i2 r3 t11 x) (inst_behind_P6 i_ r_ i2 r3 t11) r)))) := by
 unfold inst_behind_j32 at h
 cases hb_8 : (t41 : Bool) with
 | true =>
  replace h := ite_t hb_8 h
  refine Ct <| Sq <| Ro <| Rc 2 [vp [2] 0 8, vw i2.Imm] ?_
  obtain ⟨r_1, hr_1, h⟩ := bind_s h
  have hc_1 := bits_Fits_L i2.Imm r_1 hr_1
  refine Rt (some 46) (.callf 68) [] none [.w i2.Imm] (.b r_1) [] (cc hc_1) <| Rc 1 [vb r_1] ?_
  cases hb_9 : (r_1 : Bool) with
  | true =>
   replace h := ite_t hb_9 h
   refine Rc 5 [vp [2] 0 9, vw i2.Sel, vb (i2.Sel == 0), vb (i2.Sel == 0), vb (i2.Sel == 0)] <| Rk <| Runs.ret <| kB_ret <| kB_ret <| kS_ret ?_
   obtain rfl := sj h
   exact ⟨nofun, rfl, (by kernel_rfl)⟩
  | false =>
   replace h := ite_f hb_9 h
   refine Rc 5 [vn, vn, vn, vb false, vb false] <| Rk <| Runs.ret <| kB_ret <| kB_ret <| kS_ret ?_
   obtain rfl := sj h
   exact ⟨nofun, rfl, (by kernel_rfl)⟩
 | false =>
  replace h := ite_f hb_8 h
  refine Cf <| Sq <| Sq <| Ro <| Rc 2 [vb (t15 == 7), vb (t15 == 7)] <| Rk ?_
  cases hb_10 : ((t15 == 7) : Bool) with
  | true =>
   replace h := ite_t hb_10 h
   refine Ct <| Runs.skip <| kS_nrm <| Ct <| Sq <| Ro <| Rc 4 [vp [2] 0 9, vw i2.Sel, vb (i2.Sel == 0), vb (i2.Sel == 0)] <| Rk <| Runs.ret <| kB_ret <| kB_ret <| kS_ret ?_
   obtain rfl := sj h
   exact ⟨nofun, rfl, (by kernel_rfl)⟩
  | false =>
   replace h := ite_f hb_10 h
   refine Cf <| Sq <| Ro <| Rc 2 [vb (t15 == 10), vb (t15 == 10)] <| Rk ?_
   cases hb_11 : ((t15 == 10) : Bool) with
   | true =>
    replace h := ite_t hb_11 h
    refine Ct <| Runs.skip <| kS_nrm <| Ct <| Sq <| Ro <| Rc 4 [vp [2] 0 9, vw i2.Sel, vb (i2.Sel == 0), vb (i2.Sel == 0)] <| Rk <| Runs.ret <| kB_ret <| kB_ret <| kS_ret ?_
    obtain rfl := sj h
    exact ⟨nofun, rfl, (by kernel_rfl)⟩
   | false =>
    replace h := ite_f hb_11 h
    refine Cf <| Sq <| Ro <| Rc 2 [vb (t15 == 12), vb (t15 == 12)] <| Rk ?_
    cases hb_12 : ((t15 == 12) : Bool) with
    | true =>
     replace h := ite_t hb_12 h
     refine Ct <| Runs.skip <| kS_nrm <| Ct <| Sq <| Ro <| Rc 4 [vp [2] 0 9, vw i2.Sel, vb (i2.Sel == 0), vb (i2.Sel == 0)] <| Rk <| Runs.ret <| kB_ret <| kB_ret <| kS_ret ?_
     obtain rfl := sj h
     exact ⟨nofun, rfl, (by kernel_rfl)⟩
    | false =>
     replace h := ite_f hb_12 h
     refine Cf <| Ro <| Rc 2 [vb (t15 == 13), vb (t15 == 13)] <| Rk ?_
     cases hb_13 : ((t15 == 13) : Bool) with
     | true =>
      replace h := ite_t hb_13 h
      refine Ct <| Sq <| Ro <| Rc 4 [vp [2] 0 9, vw i2.Sel, vb (i2.Sel == 0), vb (i2.Sel == 0)] <| Rk <| Runs.ret <| kB_ret <| kB_ret <| kS_ret ?_
      obtain rfl := sj h
      exact ⟨nofun, rfl, (by kernel_rfl)⟩
     | false =>
      replace h := ite_f hb_13 h
      refine Cf <| Sq <| Ro <| Rc 2 [vb (t15 == 11), vb (t15 == 11)] <| Rk ?_
      cases hb_14 : ((t15 == 11) : Bool) with
      | true =>
       replace h := ite_t hb_14 h
       refine Ct <| Sq <| Ro <| Rc 1 [vb true] <| Rk <| Runs.ret <| kB_ret <| kB_ret <| kS_ret ?_
       obtain rfl := sj h
       exact ⟨nofun, rfl, (by kernel_rfl)⟩
      | false =>
       replace h := ite_f hb_14 h
       refine Cf <| Runs.skip <| kB_nrm <| kB_nrm <| kS_nrm <| Ro <| Rc 2 [vi (IntKind.wrap .i64 (t12 + 1)), vi (IntKind.wrap .i64 (t12 + 1))] <| Rd ?_
       obtain rfl := sj h
       exact ⟨rfl, (), Cz⟩
theorem inst_behind_l6_ok (i_ : Inst) (r_ : Row) (i2 : Inst) (r3 : Row) (t11 : (A2 Int)) (t12 : Int) (r : (Lp Int (Bool ⊕ Unit))) (h : inst_behind_l6 i2 r3 t11 t12 = some r) : Runs L0 F62l6 (inst_behind_h6 i2 r3 t11 t12) (LQ [] [2, 3, 11, 12] [[2], [3]] (fun (x : Int) (g : Unit) => inst_behind_h6 i2 r3 t11 x) (inst_behind_P6 i_ r_ i2 r3 t11) r) := by
 unfold inst_behind_l6 at h
 refine Sq <| Ro <| Rc 1 [vb (decide (t12 < 2))] <| Rk <| Sq ?_
 cases hb_1 : ((decide (t12 < 2)) : Bool) with
 | true =>
  replace h := ite_t hb_1 h
  refine Ct <| Runs.skip <| kS_nrm <| Sq <| Runs.block <| Sq <| Ro ?_
  obtain ⟨z_1, hz_1, h⟩ := bind_s h
  refine Rt (some 14) (.indexA 2 1 none) [] none [.d (.agg [.int .i64 t11.a0, .int .i64 t11.a1]), .i t12] (.i z_1) [] (cut_ixA (e := (D.int .i64)) (l := t11.l) hz_1 rfl) <| Rc 1 [vi z_1] <| Rk <| Sq <| Ro <| Rc 1 [vi z_1] <| Rk <| Runs.block <| Sq <| Ro <| Rc 2 [vb (z_1 == 6), vb (z_1 == 6)] <| Rk ?_
  cases hb_2 : ((z_1 == 6) : Bool) with
  | true =>
   replace h := ite_t hb_2 h
   refine Ct <| Sq <| Ro <| Rc 4 [vp [2] 0 8, vw i2.Imm, vb (decide (i2.Imm < 256)), vb (decide (i2.Imm < 256))] ?_
   cases hb_3 : ((decide (i2.Imm < 256)) : Bool) with
   | true =>
    replace h := ite_t hb_3 h
    refine Rc 5 [vp [2] 0 9, vw i2.Sel, vb (i2.Sel == 0), vb (i2.Sel == 0), vb (i2.Sel == 0)] ?_
    cases hb_4 : ((i2.Sel == 0) : Bool) with
    | true =>
     replace h := ite_t hb_4 h
     refine Rc 4 [vp [3] 0 0, vi r3.Name, vb (r3.Name != 70), vb (r3.Name != 70)] ?_
     cases hb_5 : ((r3.Name != 70) : Bool) with
     | true =>
      replace h := ite_t hb_5 h
      refine Rc 5 [vp [3] 0 0, vi r3.Name, vb (r3.Name != 71), vb (r3.Name != 71), vb (r3.Name != 71)] ?_
      cases hb_6 : ((r3.Name != 71) : Bool) with
      | true =>
       replace h := ite_t hb_6 h
       refine Rc 6 [vn, vn, vn, vb true, vb true, vb true] <| Rk <| Runs.ret <| kB_ret <| kB_ret <| kS_ret ?_
       obtain rfl := sj h
       exact ⟨nofun, rfl, (by kernel_rfl)⟩
      | false =>
       replace h := ite_f hb_6 h
       refine Rc 6 [vp [2] 0 8, vw i2.Imm, vb (i2.Imm == 10), vb (i2.Imm == 10), vb (i2.Imm == 10), vb (i2.Imm == 10)] <| Rk <| Runs.ret <| kB_ret <| kB_ret <| kS_ret ?_
       obtain rfl := sj h
       exact ⟨nofun, rfl, (by kernel_rfl)⟩
     | false =>
      replace h := ite_f hb_5 h
      refine Rc 11 [vn, vn, vn, vb false, vb false, vp [2] 0 8, vw i2.Imm, vb (i2.Imm == 10), vb (i2.Imm == 10), vb (i2.Imm == 10), vb (i2.Imm == 10)] <| Rk <| Runs.ret <| kB_ret <| kB_ret <| kS_ret ?_
      obtain rfl := sj h
      exact ⟨nofun, rfl, (by kernel_rfl)⟩
    | false =>
     replace h := ite_f hb_4 h
     refine Rc 15 [vn, vn, vn, vn, vn, vn, vn, vn, vn, vn, vn, vn, vn, vb false, vb false] <| Rk <| Runs.ret <| kB_ret <| kB_ret <| kS_ret ?_
     obtain rfl := sj h
     exact ⟨nofun, rfl, (by kernel_rfl)⟩
   | false =>
    replace h := ite_f hb_3 h
    refine Rc 20 [vn, vn, vn, vb false, vb false, vn, vn, vn, vn, vn, vn, vn, vn, vn, vn, vn, vn, vn, vb false, vb false] <| Rk <| Runs.ret <| kB_ret <| kB_ret <| kS_ret ?_
    obtain rfl := sj h
    exact ⟨nofun, rfl, (by kernel_rfl)⟩
  | false =>
   replace h := ite_f hb_2 h
   refine Cf <| Sq <| Sq <| Ro <| Rc 2 [vb (z_1 == 8), vb (z_1 == 8)] <| Rk ?_
   cases hb_7 : ((z_1 == 8) : Bool) with
   | true =>
    replace h := ite_t hb_7 h
    refine Ct <| Runs.skip <| kS_nrm <| Runs.canon (inst_behind_h32 i2 r3 t11 t12 z_1 true) Cz ?_
    exact inst_behind_j32_ok i_ r_ i2 r3 t11 t12 z_1 true r h
   | false =>
    replace h := ite_f hb_7 h
    refine Cf <| Ro <| Rc 2 [vb (z_1 == 9), vb (z_1 == 9)] <| Rk <| Runs.canon (inst_behind_h32 i2 r3 t11 t12 z_1 (z_1 == 9)) Cz ?_
    exact inst_behind_j32_ok i_ r_ i2 r3 t11 t12 z_1 (z_1 == 9) r h
 | false =>
  replace h := ite_f hb_1 h
  refine Cf <| Runs.exit <| kS_exit ?_
  obtain rfl := sj h
  exact ⟨nofun, rfl, (), Cz⟩
theorem inst_behind_ok (i_ : Inst) (r_ : Row) (r : Bool) (h : inst_behind i_ r_ = some r) : Runs L0 F62.body ⟨tmOf [.d (Inst.d i_), .d (Row.d r_)] 0, updW (fun _ => none) []⟩ (inst_behind_Q i_ r_ r) := by
 unfold inst_behind at h
 refine Sq <| Ro <| Rc 3 [⟨.ptr [2] 0 0, [([2], some (.cells [.b i_.Lock, .i i_.Rep, .i i_.Seg, .y i_.Op, .i i_.Mod, .i i_.Reg, .i i_.RM, .w i_.Disp, .w i_.Imm, .w i_.Sel] 0))]⟩, ⟨.ptr [3] 0 0, [([3], some (.cells [.i r_.Name, .i r_.A, .i r_.B, .b r_.Mod] 0))]⟩, vb false] <| Rk <| Sq <| Sq <| Ro <| Rc 6 [vp [3] 0 1, vi r_.A, vp [3] 0 2, vi r_.B, ⟨.d (.agg [.int .i64 r_.A, .int .i64 r_.B]), []⟩, vi 0] <| Rk <| Runs.block ?_
 obtain ⟨e_1, he_1, h⟩ := bind_s h
 refine Runs.loop (fun x : Int => inst_behind_l6 i_ r_ ({ a0 := r_.A, a1 := r_.B } : (A2 Int)) x) (fun (x : Int) (g : Unit) => inst_behind_h6 i_ r_ ({ a0 := r_.A, a1 := r_.B } : (A2 Int)) x) (inst_behind_P6 i_ r_ i_ r_ ({ a0 := r_.A, a1 := r_.B } : (A2 Int))) (fun x g r hr => inst_behind_l6_ok i_ r_ i_ r_ ({ a0 := r_.A, a1 := r_.B } : (A2 Int)) x  r hr) () he_1 Cz ?_
 rintro ⟨o, s⟩ hp
 cases e_1 with
 | inl e_2 =>
  obtain ⟨ho, hf⟩ := hp
  have ho' : o = .ret := ho
  subst ho'
  refine kB_ret <| kS_ret ?_
  obtain rfl := sj h
  exact ⟨Out.ret_ne, hf⟩
 | inr e_3 =>
  obtain ⟨ho, g_1, hk_1⟩ := hp
  have ho' : o = .exit 0 := ho
  subst ho'
  refine kB_hit <| kS_nrm <| Runs.canon _ hk_1 <| Sq <| Ro <| Rc 4 [vp [2] 0 8, vw i_.Imm, vb (i_.Imm == 0), vb (i_.Imm == 0)] ?_
  cases hb_1 : ((i_.Imm == 0) : Bool) with
  | true =>
   replace h := ite_t hb_1 h
   refine Rc 5 [vp [2] 0 9, vw i_.Sel, vb (i_.Sel == 0), vb (i_.Sel == 0), vb (i_.Sel == 0)] <| Rk <| Runs.ret ?_
   cases h
   exact Fq
  | false =>
   replace h := ite_f hb_1 h
   refine Rc 5 [vn, vn, vn, vb false, vb false] <| Rk <| Runs.ret ?_
   cases h
   exact Fq
theorem inst_behind_L (i_ : Inst) (r_ : Row) (r : Bool) (h : inst_behind i_ r_ = some r) : L0 62 [.d (Inst.d i_), .d (Row.d r_)] = some (.b r, [.d (Inst.d i_), .d (Row.d r_)]) := by
 obtain ⟨p, ⟨hne, hf⟩, hr⟩ := inst_behind_ok i_ r_ r h
 obtain ⟨k, hk⟩ := run_of (F := F62) (args := [.d (Inst.d i_), .d (Row.d r_)]) (ap := [.d (Inst.d i_), .d (Row.d r_)]) (bx0 := updW (fun _ => none) []) rfl rfl (by kernel_rfl) ⟨p, ⟨hne, hf⟩, hr⟩
 exact lim_run (k := k) rfl hk
def isa_Repeats_h28 (t3 : Int) (t4 : Bool) : St := ⟨tab [(3, .i t3), (4, .b t4)], tabB []⟩
def isa_Repeats_Q (name_ : Int) (r : Int) (p : Out × St) : Prop := (∀ i, p.1 ≠ .exit i) ∧ finF F15 [.i name_] p.2 = some (.i r, [.i name_])
theorem isa_Repeats_j28_ok (name_ : Int) (t3 : Int) (t4 : Bool) (r : Int) (h : isa_Repeats_j28 t3 t4 = some r) : Runs L0 F15b28 (isa_Repeats_h28 t3 t4) (kB 0 (kS L0 F15c51 (isa_Repeats_Q name_ r))) := by
 unfold isa_Repeats_j28 at h
 cases hb_2 : (t4 : Bool) with
 | true =>
  replace h := ite_t hb_2 h
  refine Ct <| Sq <| Ro <| Rc 1 [vi 1] <| Rk <| Runs.ret <| kB_ret <| kS_ret ?_
  cases h
  exact Fq
 | false =>
  replace h := ite_f hb_2 h
  refine Cf <| Sq <| Sq <| Ro <| Rc 2 [vb (t3 == 48), vb (t3 == 48)] <| Rk ?_
  cases hb_3 : ((t3 == 48) : Bool) with
  | true =>
   replace h := ite_t hb_3 h
   refine Ct <| Runs.skip <| kS_nrm <| Ct <| Sq <| Ro <| Rc 1 [vi 2] <| Rk <| Runs.ret <| kB_ret <| kS_ret ?_
   cases h
   exact Fq
  | false =>
   replace h := ite_f hb_3 h
   refine Cf <| Sq <| Ro <| Rc 2 [vb (t3 == 49), vb (t3 == 49)] <| Rk ?_
   cases hb_4 : ((t3 == 49) : Bool) with
   | true =>
    replace h := ite_t hb_4 h
    refine Ct <| Runs.skip <| kS_nrm <| Ct <| Sq <| Ro <| Rc 1 [vi 2] <| Rk <| Runs.ret <| kB_ret <| kS_ret ?_
    cases h
    exact Fq
   | false =>
    replace h := ite_f hb_4 h
    refine Cf <| Sq <| Ro <| Rc 2 [vb (t3 == 54), vb (t3 == 54)] <| Rk ?_
    cases hb_5 : ((t3 == 54) : Bool) with
    | true =>
     replace h := ite_t hb_5 h
     refine Ct <| Runs.skip <| kS_nrm <| Ct <| Sq <| Ro <| Rc 1 [vi 2] <| Rk <| Runs.ret <| kB_ret <| kS_ret ?_
     cases h
     exact Fq
    | false =>
     replace h := ite_f hb_5 h
     refine Cf <| Ro <| Rc 2 [vb (t3 == 55), vb (t3 == 55)] <| Rk ?_
     cases hb_6 : ((t3 == 55) : Bool) with
     | true =>
      replace h := ite_t hb_6 h
      refine Ct <| Sq <| Ro <| Rc 1 [vi 2] <| Rk <| Runs.ret <| kB_ret <| kS_ret ?_
      cases h
      exact Fq
     | false =>
      replace h := ite_f hb_6 h
      refine Cf <| Runs.skip <| kB_nrm <| kS_nrm <| Sq <| Ro <| Rc 1 [vi 0] <| Rk <| Runs.ret ?_
      cases h
      exact Fq
theorem isa_Repeats_ok (name_ : Int) (r : Int) (h : isa_Repeats name_ = some r) : Runs L0 F15.body ⟨tmOf [.i name_] 0, updW (fun _ => none) []⟩ (isa_Repeats_Q name_ r) := by
 unfold isa_Repeats at h
 refine Sq <| Ro <| Rc 1 [vi 0] <| Rk <| Sq <| Sq <| Ro <| Rc 1 [vi name_] <| Rk <| Runs.block <| Sq <| Sq <| Ro <| Rc 2 [vb (name_ == 46), vb (name_ == 46)] <| Rk ?_
 cases hb_1 : ((name_ == 46) : Bool) with
 | true =>
  replace h := ite_t hb_1 h
  refine Ct <| Runs.skip <| kS_nrm <| Runs.canon (isa_Repeats_h28 name_ true) Cz ?_
  exact isa_Repeats_j28_ok name_ name_ true r h
 | false =>
  replace h := ite_f hb_1 h
  refine Cf <| Sq <| Ro <| Rc 2 [vb (name_ == 47), vb (name_ == 47)] <| Rk ?_
  cases hb_7 : ((name_ == 47) : Bool) with
  | true =>
   replace h := ite_t hb_7 h
   refine Ct <| Runs.skip <| kS_nrm <| Runs.canon (isa_Repeats_h28 name_ true) Cz ?_
   exact isa_Repeats_j28_ok name_ name_ true r h
  | false =>
   replace h := ite_f hb_7 h
   refine Cf <| Sq <| Ro <| Rc 2 [vb (name_ == 50), vb (name_ == 50)] <| Rk ?_
   cases hb_8 : ((name_ == 50) : Bool) with
   | true =>
    replace h := ite_t hb_8 h
    refine Ct <| Runs.skip <| kS_nrm <| Runs.canon (isa_Repeats_h28 name_ true) Cz ?_
    exact isa_Repeats_j28_ok name_ name_ true r h
   | false =>
    replace h := ite_f hb_8 h
    refine Cf <| Sq <| Ro <| Rc 2 [vb (name_ == 51), vb (name_ == 51)] <| Rk ?_
    cases hb_9 : ((name_ == 51) : Bool) with
    | true =>
     replace h := ite_t hb_9 h
     refine Ct <| Runs.skip <| kS_nrm <| Runs.canon (isa_Repeats_h28 name_ true) Cz ?_
     exact isa_Repeats_j28_ok name_ name_ true r h
    | false =>
     replace h := ite_f hb_9 h
     refine Cf <| Sq <| Ro <| Rc 2 [vb (name_ == 52), vb (name_ == 52)] <| Rk ?_
     cases hb_10 : ((name_ == 52) : Bool) with
     | true =>
      replace h := ite_t hb_10 h
      refine Ct <| Runs.skip <| kS_nrm <| Runs.canon (isa_Repeats_h28 name_ true) Cz ?_
      exact isa_Repeats_j28_ok name_ name_ true r h
     | false =>
      replace h := ite_f hb_10 h
      refine Cf <| Ro <| Rc 2 [vb (name_ == 53), vb (name_ == 53)] <| Rk <| Runs.canon (isa_Repeats_h28 name_ (name_ == 53)) Cz ?_
      exact isa_Repeats_j28_ok name_ name_ (name_ == 53) r h
theorem isa_Repeats_L (name_ : Int) (r : Int) (h : isa_Repeats name_ = some r) : L0 15 [.i name_] = some (.i r, [.i name_]) := by
 obtain ⟨p, ⟨hne, hf⟩, hr⟩ := isa_Repeats_ok name_ r h
 obtain ⟨k, hk⟩ := run_of (F := F15) (args := [.i name_]) (ap := [.i name_]) (bx0 := updW (fun _ => none) []) rfl rfl (by kernel_rfl) ⟨p, ⟨hne, hf⟩, hr⟩
 exact lim_run (k := k) rfl hk
def inst_prefixes_Q (i_ : Inst) (r_ : Row) (r : Bool) (p : Out × St) : Prop := (∀ i, p.1 ≠ .exit i) ∧ finF F63 [.d (Inst.d i_), .d (Row.d r_)] p.2 = some (.b r, [.d (Inst.d i_), .d (Row.d r_)])
theorem inst_prefixes_ok (i_ : Inst) (r_ : Row) (r : Bool) (h : inst_prefixes i_ r_ = some r) : Runs L0 F63.body ⟨tmOf [.d (Inst.d i_), .d (Row.d r_)] 0, updW (fun _ => none) []⟩ (inst_prefixes_Q i_ r_ r) := by
 unfold inst_prefixes at h
 refine Sq <| Ro <| Rc 3 [⟨.ptr [2] 0 0, [([2], some (.cells [.b i_.Lock, .i i_.Rep, .i i_.Seg, .y i_.Op, .i i_.Mod, .i i_.Reg, .i i_.RM, .w i_.Disp, .w i_.Imm, .w i_.Sel] 0))]⟩, ⟨.ptr [3] 0 0, [([3], some (.cells [.i r_.Name, .i r_.A, .i r_.B, .b r_.Mod] 0))]⟩, vb false] <| Rk <| Sq <| Ro <| Rc 2 [vp [3] 0 0, vi r_.Name] ?_
 obtain ⟨r_1, hr_1, h⟩ := bind_s h
 have hc_1 := isa_Repeats_L r_.Name r_1 hr_1
 refine Rt (some 8) (.callf 15) [] none [.i r_.Name] (.i r_1) [] (cc hc_1) <| Rc 1 [vi r_1] <| Rk <| Sq <| Sq <| Ro <| Rc 2 [vp [2] 0 1, vi i_.Rep] <| Rk <| Runs.block <| Sq <| Ro <| Rc 2 [vb (i_.Rep == 0), vb (i_.Rep == 0)] <| Rk ?_
 cases hb_1 : ((i_.Rep == 0) : Bool) with
 | true =>
  replace h := ite_t hb_1 h
  refine Ct <| Runs.skip <| kB_nrm <| kS_nrm <| Sq <| Ro <| Rc 4 [vp [2] 0 2, vi i_.Seg, vb (decide (i_.Seg ≥ 0)), vb (decide (i_.Seg ≥ 0))] ?_
  cases hb_2 : ((decide (i_.Seg ≥ 0)) : Bool) with
  | true =>
   replace h := ite_t hb_2 h
   refine Rc 5 [vp [2] 0 2, vi i_.Seg, vb (decide (i_.Seg ≤ 4)), vb (decide (i_.Seg ≤ 4)), vb (decide (i_.Seg ≤ 4))] <| Rk <| Runs.ret ?_
   cases h
   exact Fq
  | false =>
   replace h := ite_f hb_2 h
   refine Rc 5 [vn, vn, vn, vb false, vb false] <| Rk <| Runs.ret ?_
   cases h
   exact Fq
 | false =>
  replace h := ite_f hb_1 h
  refine Cf <| Sq <| Ro <| Rc 2 [vb (i_.Rep == 1), vb (i_.Rep == 1)] <| Rk ?_
  cases hb_3 : ((i_.Rep == 1) : Bool) with
  | true =>
   replace h := ite_t hb_3 h
   refine Ct <| Sq <| Ro <| Rc 2 [vi r_1, vb (decide (r_1 < 2))] <| Rk ?_
   cases hb_4 : ((decide (r_1 < 2)) : Bool) with
   | true =>
    replace h := ite_t hb_4 h
    refine Ct <| Sq <| Ro <| Rc 1 [vb false] <| Rk <| Runs.ret <| kB_ret <| kS_ret ?_
    cases h
    exact Fq
   | false =>
    replace h := ite_f hb_4 h
    refine Cf <| Runs.skip <| kB_nrm <| kS_nrm <| Sq <| Ro <| Rc 4 [vp [2] 0 2, vi i_.Seg, vb (decide (i_.Seg ≥ 0)), vb (decide (i_.Seg ≥ 0))] ?_
    cases hb_5 : ((decide (i_.Seg ≥ 0)) : Bool) with
    | true =>
     replace h := ite_t hb_5 h
     refine Rc 5 [vp [2] 0 2, vi i_.Seg, vb (decide (i_.Seg ≤ 4)), vb (decide (i_.Seg ≤ 4)), vb (decide (i_.Seg ≤ 4))] <| Rk <| Runs.ret ?_
     cases h
     exact Fq
    | false =>
     replace h := ite_f hb_5 h
     refine Rc 5 [vn, vn, vn, vb false, vb false] <| Rk <| Runs.ret ?_
     cases h
     exact Fq
  | false =>
   replace h := ite_f hb_3 h
   refine Cf <| Sq <| Ro <| Rc 2 [vb (i_.Rep == 2), vb (i_.Rep == 2)] <| Rk ?_
   cases hb_6 : ((i_.Rep == 2) : Bool) with
   | true =>
    replace h := ite_t hb_6 h
    refine Ct <| Sq <| Ro <| Rc 2 [vi r_1, vb (decide (r_1 < 1))] <| Rk ?_
    cases hb_7 : ((decide (r_1 < 1)) : Bool) with
    | true =>
     replace h := ite_t hb_7 h
     refine Ct <| Sq <| Ro <| Rc 1 [vb false] <| Rk <| Runs.ret <| kB_ret <| kS_ret ?_
     cases h
     exact Fq
    | false =>
     replace h := ite_f hb_7 h
     refine Cf <| Runs.skip <| kB_nrm <| kS_nrm <| Sq <| Ro <| Rc 4 [vp [2] 0 2, vi i_.Seg, vb (decide (i_.Seg ≥ 0)), vb (decide (i_.Seg ≥ 0))] ?_
     cases hb_8 : ((decide (i_.Seg ≥ 0)) : Bool) with
     | true =>
      replace h := ite_t hb_8 h
      refine Rc 5 [vp [2] 0 2, vi i_.Seg, vb (decide (i_.Seg ≤ 4)), vb (decide (i_.Seg ≤ 4)), vb (decide (i_.Seg ≤ 4))] <| Rk <| Runs.ret ?_
      cases h
      exact Fq
     | false =>
      replace h := ite_f hb_8 h
      refine Rc 5 [vn, vn, vn, vb false, vb false] <| Rk <| Runs.ret ?_
      cases h
      exact Fq
   | false =>
    replace h := ite_f hb_6 h
    refine Cf <| Sq <| Ro <| Rc 1 [vb false] <| Rk <| Runs.ret <| kB_ret <| kS_ret ?_
    cases h
    exact Fq
theorem inst_prefixes_L (i_ : Inst) (r_ : Row) (r : Bool) (h : inst_prefixes i_ r_ = some r) : L0 63 [.d (Inst.d i_), .d (Row.d r_)] = some (.b r, [.d (Inst.d i_), .d (Row.d r_)]) := by
 obtain ⟨p, ⟨hne, hf⟩, hr⟩ := inst_prefixes_ok i_ r_ r h
 obtain ⟨k, hk⟩ := run_of (F := F63) (args := [.d (Inst.d i_), .d (Row.d r_)]) (ap := [.d (Inst.d i_), .d (Row.d r_)]) (bx0 := updW (fun _ => none) []) rfl rfl (by kernel_rfl) ⟨p, ⟨hne, hf⟩, hr⟩
 exact lim_run (k := k) rfl hk
def inst_May_Q (i_ : Inst) (r : Bool) (p : Out × St) : Prop := (∀ i, p.1 ≠ .exit i) ∧ finF F30 [.d (Inst.d i_)] p.2 = some (.b r, [.d (Inst.d i_)])
theorem inst_May_ok (i_ : Inst) (r : Bool) (h : inst_May i_ = some r) : Runs L0 F30.body ⟨tmOf [.d (Inst.d i_)] 0, updW (fun _ => none) []⟩ (inst_May_Q i_ r) := by
 unfold inst_May at h
 refine Sq <| Ro <| Rc 2 [⟨.ptr [1] 0 0, [([1], some (.cells [.b i_.Lock, .i i_.Rep, .i i_.Seg, .y i_.Op, .i i_.Mod, .i i_.Reg, .i i_.RM, .w i_.Disp, .w i_.Imm, .w i_.Sel] 0))]⟩, vb false] <| Rk <| Sq <| Ro <| Rc 1 [⟨.d (Inst.d i_), []⟩] ?_
 obtain ⟨r_1, hr_1, h⟩ := bind_s h
 have hc_1 := inst_Row_L i_ r_1 hr_1
 refine Rt (some 7) (.callf 60) [] none [.d (Inst.d i_)] (.tup [.d (Row.d r_1.1), .b r_1.2]) [] (cc hc_1) <| Rc 6 [⟨.tup [.d (Row.d r_1.1), .b r_1.2], []⟩, ⟨.d (Row.d r_1.1), []⟩, vb r_1.2, ⟨.ptr [3] 0 0, [([3], some (.cells [.i 0, .i 0, .i 0, .b false] 0))]⟩, ⟨.tup [], [([3], some (.cells [.i r_1.1.Name, .i r_1.1.A, .i r_1.1.B, .b r_1.1.Mod] 0))]⟩, vb r_1.2] <| Rk <| Sq <| Ro <| Rc 2 [vb r_1.2, vb r_1.2] ?_
 cases hb_1 : (r_1.2 : Bool) with
 | true =>
  replace h := ite_t hb_1 h
  refine Rc 2 [⟨.d (Inst.d i_), []⟩, ⟨.d (Row.d r_1.1), []⟩] ?_
  obtain ⟨r_2, hr_2, h⟩ := bind_s h
  have hc_2 := inst_second_L i_ r_1.1 r_2 hr_2
  refine Rt (some 14) (.callf 61) [] none [.d (Inst.d i_), .d (Row.d r_1.1)] (.b r_2) [] (cc hc_2) <| Rc 2 [vb r_2, vb r_2] ?_
  cases hb_2 : (r_2 : Bool) with
  | true =>
   replace h := ite_t hb_2 h
   refine Rc 2 [⟨.d (Inst.d i_), []⟩, ⟨.d (Row.d r_1.1), []⟩] ?_
   obtain ⟨r_3, hr_3, h⟩ := bind_s h
   have hc_3 := inst_behind_L i_ r_1.1 r_3 hr_3
   refine Rt (some 19) (.callf 62) [] none [.d (Inst.d i_), .d (Row.d r_1.1)] (.b r_3) [] (cc hc_3) <| Rc 2 [vb r_3, vb r_3] ?_
   cases hb_3 : (r_3 : Bool) with
   | true =>
    replace h := ite_t hb_3 h
    refine Rc 2 [⟨.d (Inst.d i_), []⟩, ⟨.d (Row.d r_1.1), []⟩] ?_
    obtain ⟨r_4, hr_4, h⟩ := bind_s h
    have hc_4 := inst_prefixes_L i_ r_1.1 r_4 hr_4
    refine Rt (some 24) (.callf 63) [] none [.d (Inst.d i_), .d (Row.d r_1.1)] (.b r_4) [] (cc hc_4) <| Rc 2 [vb r_4, vb r_4] <| Rk <| Runs.ret ?_
    cases h
    exact Fq
   | false =>
    replace h := ite_f hb_3 h
    refine Rc 5 [vn, vn, vn, vb false, vb false] <| Rk <| Runs.ret ?_
    cases h
    exact Fq
  | false =>
   replace h := ite_f hb_2 h
   refine Rc 10 [vn, vn, vn, vb false, vb false, vn, vn, vn, vb false, vb false] <| Rk <| Runs.ret ?_
   cases h
   exact Fq
 | false =>
  replace h := ite_f hb_1 h
  refine Rc 15 [vn, vn, vn, vb false, vb false, vn, vn, vn, vb false, vb false, vn, vn, vn, vb false, vb false] <| Rk <| Runs.ret ?_
  cases h
  exact Fq
theorem inst_May_L (i_ : Inst) (r : Bool) (h : inst_May i_ = some r) : L0 30 [.d (Inst.d i_)] = some (.b r, [.d (Inst.d i_)]) := by
 obtain ⟨p, ⟨hne, hf⟩, hr⟩ := inst_May_ok i_ r h
 obtain ⟨k, hk⟩ := run_of (F := F30) (args := [.d (Inst.d i_)]) (ap := [.d (Inst.d i_)]) (bx0 := updW (fun _ => none) []) rfl rfl (by kernel_rfl) ⟨p, ⟨hne, hf⟩, hr⟩
 exact lim_run (k := k) rfl hk
def scan_source_take_h12 (s0 : Source) (b_2 : Inst) (i3 : Inst) : St := ⟨tab [(0, .ptr [0] 0 0), (2, .ptr [2] 0 0), (3, .ptr [3] 0 0)], tabB [([0], some (.cells [.d (.sl (mY s0.b)), .i s0.at_] 0)), ([2], some (.cells [.b b_2.Lock, .i b_2.Rep, .i b_2.Seg, .y b_2.Op, .i b_2.Mod, .i b_2.Reg, .i b_2.RM, .w b_2.Disp, .w b_2.Imm, .w b_2.Sel] 0)), ([3], some (.cells [.b i3.Lock, .i i3.Rep, .i i3.Seg, .y i3.Op, .i i3.Mod, .i i3.Reg, .i i3.RM, .w i3.Disp, .w i3.Imm, .w i3.Sel] 0))]⟩
def scan_source_take_Q (s_ : Source) (r : (Inst × Source)) (p : Out × St) : Prop := (∀ i, p.1 ≠ .exit i) ∧ finF F66 [.ptr [0] 0 0] p.2 = some (.d (Inst.d r.1), [.ptr [.d (.sl (mY r.2.b)), .i r.2.at_]])
theorem scan_source_take_j12_ok (s_ : Source) (s0 : Source) (b_2 : Inst) (i3 : Inst) (r : (Inst × Source)) (h : scan_source_take_j12 s0 b_2 i3 = some r) : Runs L0 F66b12 (scan_source_take_h12 s0 b_2 i3) (scan_source_take_Q s_ r) := by
 unfold scan_source_take_j12 at h
 refine Sq <| Ro <| Rc 4 [vp [3] 0 3, vy i3.Op, vp [3] 0 5, vi i3.Reg] ?_
 obtain ⟨r_4, hr_4, h⟩ := bind_s h
 have hc_4 := isa_Of_L i3.Op i3.Reg r_4 hr_4
 refine Rt (some 19) (.callf 11) [] none [.y i3.Op, .i i3.Reg] (.tup [.d (Row.d r_4.1), .b r_4.2]) [] (cc hc_4) <| Rc 6 [⟨.tup [.d (Row.d r_4.1), .b r_4.2], []⟩, ⟨.d (Row.d r_4.1), []⟩, vb r_4.2, ⟨.ptr [4] 0 0, [([4], some (.cells [.i 0, .i 0, .i 0, .b false] 0))]⟩, ⟨.tup [], [([4], some (.cells [.i r_4.1.Name, .i r_4.1.A, .i r_4.1.B, .b r_4.1.Mod] 0))]⟩, vb r_4.2] <| Rk <| Sq <| Sq <| Ro <| Rc 2 [vb r_4.2, vb (!r_4.2)] <| Rk ?_
 cases hb_2 : ((!r_4.2) : Bool) with
 | true =>
  replace h := ite_t hb_2 h
  refine Ct ?_
  cases h
 | false =>
  replace h := ite_f hb_2 h
  refine Cf <| Runs.skip <| kS_nrm <| Sq <| Ro <| Rc 2 [vp [0] 0 0, ⟨.d (Row.d r_4.1), []⟩] ?_
  obtain ⟨r_5, hr_5, h⟩ := bind_s h
  have hc_5 := scan_source_behind_L s0 i3 r_4.1 r_5 hr_5
  refine Rt (some 27) (.callf 71) [] none [.ptr [0] 0 0, .ptr [3] 0 0, .d (Row.d r_4.1)] (.tup []) [([0], some (.cells [.d (.sl (mY r_5.2.b)), .i r_5.2.at_] 0)), ([3], some (.cells [.b r_5.1.Lock, .i r_5.1.Rep, .i r_5.1.Seg, .y r_5.1.Op, .i r_5.1.Mod, .i r_5.1.Reg, .i r_5.1.RM, .w r_5.1.Disp, .w r_5.1.Imm, .w r_5.1.Sel] 0))] (cut_call (call_of (ws := []) (us := [([0], some (.cells [.d (.sl (mY r_5.2.b)), .i r_5.2.at_] 0)), ([3], some (.cells [.b r_5.1.Lock, .i r_5.1.Rep, .i r_5.1.Seg, .y r_5.1.Op, .i r_5.1.Mod, .i r_5.1.Reg, .i r_5.1.RM, .w r_5.1.Disp, .w r_5.1.Imm, .w r_5.1.Sel] 0))]) (by kernel_rfl) (by kernel_rfl) hc_5 (by kernel_rfl) (by kernel_rfl))) <| Rk <| Sq <| Sq <| Ro <| Rc 1 [⟨.d (Inst.d r_5.1), []⟩] ?_
  obtain ⟨r_6, hr_6, h⟩ := bind_s h
  have hc_6 := inst_May_L r_5.1 r_6 hr_6
  refine Rt (some 29) (.callf 30) [] none [.d (Inst.d r_5.1)] (.b r_6) [] (cc hc_6) <| Rc 1 [vb (!r_6)] <| Rk ?_
  cases hb_3 : ((!r_6) : Bool) with
  | true =>
   replace h := ite_t hb_3 h
   refine Ct ?_
   cases h
  | false =>
   replace h := ite_f hb_3 h
   refine Cf <| Runs.skip <| kS_nrm <| Sq <| Ro <| Rc 2 [⟨.d (Inst.d r_5.1), []⟩, ⟨.tup [], [([2], some (.cells [.b r_5.1.Lock, .i r_5.1.Rep, .i r_5.1.Seg, .y r_5.1.Op, .i r_5.1.Mod, .i r_5.1.Reg, .i r_5.1.RM, .w r_5.1.Disp, .w r_5.1.Imm, .w r_5.1.Sel] 0))]⟩] <| Rk <| Runs.ret ?_
   cases h
   exact Fq
theorem scan_source_take_ok (s_ : Source) (r : (Inst × Source)) (h : scan_source_take s_ = some r) : Runs L0 F66.body ⟨tmOf [.ptr [0] 0 0] 0, updW (fun _ => none) [([0], some (.cells [.d (.sl (mY s_.b)), .i s_.at_] 0))]⟩ (scan_source_take_Q s_ r) := by
 unfold scan_source_take at h
 refine Sq <| Ro <| Rc 1 [⟨.ptr [2] 0 0, [([2], some (.cells [.b false, .i 0, .i 0, .y 0, .i 0, .i 0, .i 0, .w 0, .w 0, .w 0] 0))]⟩] <| Rk <| Sq <| Ro <| Rc 1 [⟨.ptr [3] 0 0, [([3], some (.cells [.b false, .i 0, .i 0, .y 0, .i 0, .i 0, .i 0, .w 0, .w 0, .w 0] 0))]⟩] <| Rk <| Sq <| Ro <| Rc 1 [vp [0] 0 0] ?_
 obtain ⟨r_1, hr_1, h⟩ := bind_s h
 have hc_1 := scan_source_ahead_L s_ ({ Lock := false, Rep := 0, Seg := 0, Op := 0, Mod := 0, Reg := 0, RM := 0, Disp := 0, Imm := 0, Sel := 0 } : Inst) r_1 hr_1
 refine Rt (some 7) (.callf 69) [] none [.ptr [0] 0 0, .ptr [3] 0 0] (.y r_1.1) [([0], some (.cells [.d (.sl (mY r_1.2.1.b)), .i r_1.2.1.at_] 0)), ([3], some (.cells [.b r_1.2.2.Lock, .i r_1.2.2.Rep, .i r_1.2.2.Seg, .y r_1.2.2.Op, .i r_1.2.2.Mod, .i r_1.2.2.Reg, .i r_1.2.2.RM, .w r_1.2.2.Disp, .w r_1.2.2.Imm, .w r_1.2.2.Sel] 0))] (cut_call (call_of (ws := []) (us := [([0], some (.cells [.d (.sl (mY r_1.2.1.b)), .i r_1.2.1.at_] 0)), ([3], some (.cells [.b r_1.2.2.Lock, .i r_1.2.2.Rep, .i r_1.2.2.Seg, .y r_1.2.2.Op, .i r_1.2.2.Mod, .i r_1.2.2.Reg, .i r_1.2.2.RM, .w r_1.2.2.Disp, .w r_1.2.2.Imm, .w r_1.2.2.Sel] 0))]) (by kernel_rfl) (by kernel_rfl) hc_1 (by kernel_rfl) (by kernel_rfl))) <| Rc 2 [vp [3] 0 3, ⟨.tup [], [([3], some (.cells [.b r_1.2.2.Lock, .i r_1.2.2.Rep, .i r_1.2.2.Seg, .y r_1.1, .i r_1.2.2.Mod, .i r_1.2.2.Reg, .i r_1.2.2.RM, .w r_1.2.2.Disp, .w r_1.2.2.Imm, .w r_1.2.2.Sel] 0))]⟩] <| Rk <| Sq <| Sq <| Ro <| Rc 2 [vp [3] 0 3, vy r_1.1] ?_
 obtain ⟨r_2, hr_2, h⟩ := bind_s h
 have hc_2 := isa_Two_L r_1.1 r_2 hr_2
 refine Rt (some 11) (.callf 23) [] none [.y r_1.1] (.b r_2) [] (cc hc_2) <| Rk ?_
 cases hb_1 : (r_2 : Bool) with
 | true =>
  replace h := ite_t hb_1 h
  refine Ct <| Ro <| Rc 1 [vp [0] 0 0] ?_
  obtain ⟨r_3, hr_3, h⟩ := bind_s h
  have hc_3 := scan_source_second_L r_1.2.1 ({ r_1.2.2 with Op := r_1.1 } : Inst) r_3 hr_3
  refine Rt (some 13) (.callf 70) [] none [.ptr [0] 0 0, .ptr [3] 0 0] (.tup []) [([0], some (.cells [.d (.sl (mY r_3.2.b)), .i r_3.2.at_] 0)), ([3], some (.cells [.b r_3.1.Lock, .i r_3.1.Rep, .i r_3.1.Seg, .y r_3.1.Op, .i r_3.1.Mod, .i r_3.1.Reg, .i r_3.1.RM, .w r_3.1.Disp, .w r_3.1.Imm, .w r_3.1.Sel] 0))] (cut_call (call_of (ws := []) (us := [([0], some (.cells [.d (.sl (mY r_3.2.b)), .i r_3.2.at_] 0)), ([3], some (.cells [.b r_3.1.Lock, .i r_3.1.Rep, .i r_3.1.Seg, .y r_3.1.Op, .i r_3.1.Mod, .i r_3.1.Reg, .i r_3.1.RM, .w r_3.1.Disp, .w r_3.1.Imm, .w r_3.1.Sel] 0))]) (by kernel_rfl) (by kernel_rfl) hc_3 (by kernel_rfl) (by kernel_rfl))) <| Rk <| Runs.canon (scan_source_take_h12 r_3.2 ({ Lock := false, Rep := 0, Seg := 0, Op := 0, Mod := 0, Reg := 0, RM := 0, Disp := 0, Imm := 0, Sel := 0 } : Inst) r_3.1) Cz ?_
  exact scan_source_take_j12_ok s_ r_3.2 ({ Lock := false, Rep := 0, Seg := 0, Op := 0, Mod := 0, Reg := 0, RM := 0, Disp := 0, Imm := 0, Sel := 0 } : Inst) r_3.1 r h
 | false =>
  replace h := ite_f hb_1 h
  refine Cf <| Runs.skip <| kS_nrm <| Runs.canon (scan_source_take_h12 r_1.2.1 ({ Lock := false, Rep := 0, Seg := 0, Op := 0, Mod := 0, Reg := 0, RM := 0, Disp := 0, Imm := 0, Sel := 0 } : Inst) ({ r_1.2.2 with Op := r_1.1 } : Inst)) Cz ?_
  exact scan_source_take_j12_ok s_ r_1.2.1 ({ Lock := false, Rep := 0, Seg := 0, Op := 0, Mod := 0, Reg := 0, RM := 0, Disp := 0, Imm := 0, Sel := 0 } : Inst) ({ r_1.2.2 with Op := r_1.1 } : Inst) r h
theorem scan_source_take_L (s_ : Source) (r : (Inst × Source)) (h : scan_source_take s_ = some r) : L0 66 [.ptr [.d (.sl (mY s_.b)), .i s_.at_]] = some (.d (Inst.d r.1), [.ptr [.d (.sl (mY r.2.b)), .i r.2.at_]]) := by
 obtain ⟨p, ⟨hne, hf⟩, hr⟩ := scan_source_take_ok s_ r h
 obtain ⟨k, hk⟩ := run_of (F := F66) (args := [.ptr [.d (.sl (mY s_.b)), .i s_.at_]]) (ap := [.ptr [0] 0 0]) (bx0 := updW (fun _ => none) [([0], some (.cells [.d (.sl (mY s_.b)), .i s_.at_] 0))]) rfl rfl (by kernel_rfl) ⟨p, ⟨hne, hf⟩, hr⟩
 exact lim_run (k := k) rfl hk
theorem scan_source_next_D_ok (s_ : Source) (r : Int) (h : scan_source_next_D s_ = some r) : RunsD L0 K1 U1 dy1 (some r) F74.body ⟨tmOf [.ptr [0] 0 0] 0, updW (fun _ => none) [([0], some (.cells [.d (.sl (mY s_.b)), .i s_.at_] 0))]⟩ (fun _ => False) := by
 unfold scan_source_next_D at h
 refine SqD <| RoD <| RcD 1 [vy 0] <| RkD <| SqD <| SqD <| RoD <| RcD 8 [vp [0] 0 0, vp [0] 0 0, vp [0] 0 1, vi s_.at_, vp [0] 0 0, vp [0] 0 0, vp [0] 0 0, ⟨.d (.sl (mY s_.b)), []⟩] <| RtD (some 12) .lenL [] none [.d (.sl (mY s_.b))] (.i (s_.b.length : Int)) [] (cut_len _) <| RcD 1 [vb (decide (s_.at_ ≥ (s_.b.length : Int)))] <| RkD ?_
 cases hb_1 : ((decide (s_.at_ ≥ (s_.b.length : Int))) : Bool) with
 | true =>
  replace h := ite_t hb_1 h
  refine CtD ?_
  obtain rfl := sj h
  exact RunsD.pan
 | false =>
  replace h := ite_f hb_1 h
  refine CfD <| RunsD.skip <| kSD_nrm <| SqD <| RoD <| RcD 8 [vp [0] 0 0, vp [0] 0 0, vp [0] 0 0, ⟨.d (.sl (mY s_.b)), []⟩, vp [0] 0 0, vp [0] 0 0, vp [0] 0 1, vi s_.at_] ?_
  obtain ⟨z_1, hz_1, h⟩ := bind_s h
  refine RtD (some 23) (.iaddrS 1) [] none [.d (.sl (mY s_.b)), .i s_.at_] (.elt (.int .u8 z_1) 0) [] (cut_at hz_1 (fun _ => rfl)) <| RcD 2 [vy z_1, vy z_1] <| RkD <| SqD <| RoD <| RcD 8 [vp [0] 0 0, vp [0] 0 0, vp [0] 0 1, vi s_.at_, vi (IntKind.wrap .i64 (s_.at_ + 1)), vp [0] 0 0, vp [0] 0 1, ⟨.tup [], [([0], some (.cells [.d (.sl (mY s_.b)), .i (IntKind.wrap .i64 (s_.at_ + 1))] 0))]⟩] <| RkD <| SqD <| RoD <| RcD 2 [vy z_1, vy z_1] <| RkD ?_
  cases h
theorem scan_source_next_D_L (s_ : Source) (r : Int) (h : scan_source_next_D s_ = some r) : K1 74 [.ptr [.d (.sl (mY s_.b)), .i s_.at_]] r :=
 dies_fn meets0 ok74 (aa := [.ptr [0] 0 0]) (bx0 := updW (fun _ => none) [([0], some (.cells [.d (.sl (mY s_.b)), .i s_.at_] 0))]) (by kernel_rfl) rfl (by kernel_rfl) (by kernel_rfl) (by kernel_rfl) (scan_source_next_D_ok s_ r h)
def scan_source_ahead_D_h3 (s0 : Source) (i1 : Inst) : St := ⟨tab [(0, .ptr [0] 0 0), (1, .ptr [1] 0 0)], tabB [([0], some (.cells [.d (.sl (mY s0.b)), .i s0.at_] 0)), ([1], some (.cells [.b i1.Lock, .i i1.Rep, .i i1.Seg, .y i1.Op, .i i1.Mod, .i i1.Reg, .i i1.RM, .w i1.Disp, .w i1.Imm, .w i1.Sel] 0))]⟩
def scan_source_ahead_D_h16 (s0 : Source) (i1 : Inst) (c5 : Int) (t14 : Bool) : St := ⟨tab [(0, .ptr [0] 0 0), (1, .ptr [1] 0 0), (5, .y c5), (14, .b t14)], tabB [([0], some (.cells [.d (.sl (mY s0.b)), .i s0.at_] 0)), ([1], some (.cells [.b i1.Lock, .i i1.Rep, .i i1.Seg, .y i1.Op, .i i1.Mod, .i i1.Reg, .i i1.RM, .w i1.Disp, .w i1.Imm, .w i1.Sel] 0))]⟩
def scan_source_ahead_D_h20 (s0 : Source) (i1 : Inst) (c5 : Int) (t27 : Bool) : St := ⟨tab [(0, .ptr [0] 0 0), (1, .ptr [1] 0 0), (5, .y c5), (27, .b t27)], tabB [([0], some (.cells [.d (.sl (mY s0.b)), .i s0.at_] 0)), ([1], some (.cells [.b i1.Lock, .i i1.Rep, .i i1.Seg, .y i1.Op, .i i1.Mod, .i i1.Reg, .i i1.RM, .w i1.Disp, .w i1.Imm, .w i1.Sel] 0))]⟩
theorem scan_source_ahead_D_j20_ok (s_ : Source) (i_ : Inst) (s0 : Source) (i1 : Inst) (c5 : Int) (t27 : Bool) (r : (Lp (Source × Inst) Int)) (h : scan_source_ahead_D_j20 s0 i1 c5 t27 = some r) : RunsD L0 K1 U1 dy1 (lpE r) F69b20 (scan_source_ahead_D_h20 s0 i1 c5 t27) (kB 2 (kB 1 (LQD [] [0, 1] [[0], [1]] (fun (x : (Source × Inst)) (g : Unit) => scan_source_ahead_D_h3 x.1 x.2) r))) := by
 unfold scan_source_ahead_D_j20 at h
 cases hb_5 : (t27 : Bool) with
 | true =>
  replace h := ite_t hb_5 h
  refine CtD <| RoD <| RcD 7 [vp [1] 0 0, vy c5, vy (IntKind.wrap .u8 (c5 - 241)), vi (IntKind.wrap .i64 (IntKind.wrap .u8 (c5 - 241))), vp [1] 0 0, vp [1] 0 1, ⟨.tup [], [([1], some (.cells [.b i1.Lock, .i (IntKind.wrap .i64 (IntKind.wrap .u8 (c5 - 241))), .i i1.Seg, .y i1.Op, .i i1.Mod, .i i1.Reg, .i i1.RM, .w i1.Disp, .w i1.Imm, .w i1.Sel] 0))]⟩] <| RdD <| kB_nrm <| kB_nrm ?_
  obtain rfl := sj h
  exact ⟨rfl, (), Cz⟩
 | false =>
  replace h := ite_f hb_5 h
  refine CfD <| SqD <| RoD <| RcD 3 [vy c5, vb (decide (c5 < 240)), vb (decide (c5 < 240))] ?_
  cases hb_6 : ((decide (c5 < 240)) : Bool) with
  | true =>
   replace h := ite_t hb_6 h
   refine RcD 7 [vp [1] 0 0, vp [1] 0 0, vp [1] 0 2, vi i1.Seg, vb (i1.Seg == 0), vb (i1.Seg == 0), vb (i1.Seg == 0)] <| RkD ?_
   cases hb_7 : ((i1.Seg == 0) : Bool) with
   | true =>
    replace h := ite_t hb_7 h
    refine CtD <| RoD <| RcD 9 [vp [1] 0 0, vy c5, vy (IntKind.wrap .u8 (c5 - 38)), vi (IntKind.wrap .i64 (IntKind.wrap .u8 (c5 - 38))), vi (shrI .i64 (IntKind.wrap .i64 (IntKind.wrap .u8 (c5 - 38))) 3), vi (IntKind.wrap .i64 ((shrI .i64 (IntKind.wrap .i64 (IntKind.wrap .u8 (c5 - 38))) 3) + 1)), vp [1] 0 0, vp [1] 0 2, ⟨.tup [], [([1], some (.cells [.b i1.Lock, .i i1.Rep, .i (IntKind.wrap .i64 ((shrI .i64 (IntKind.wrap .i64 (IntKind.wrap .u8 (c5 - 38))) 3) + 1)), .y i1.Op, .i i1.Mod, .i i1.Reg, .i i1.RM, .w i1.Disp, .w i1.Imm, .w i1.Sel] 0))]⟩] <| RdD <| kB_nrm <| kB_nrm ?_
    obtain rfl := sj h
    exact ⟨rfl, (), Cz⟩
   | false =>
    replace h := ite_f hb_7 h
    refine CfD ?_
    obtain rfl := sj h
    exact RunsD.pan
  | false =>
   replace h := ite_f hb_6 h
   refine RcD 7 [vn, vn, vn, vn, vn, vb false, vb false] <| RkD <| CfD ?_
   obtain rfl := sj h
   exact RunsD.pan
theorem scan_source_ahead_D_j16_ok (s_ : Source) (i_ : Inst) (s0 : Source) (i1 : Inst) (c5 : Int) (t14 : Bool) (r : (Lp (Source × Inst) Int)) (h : scan_source_ahead_D_j16 s0 i1 c5 t14 = some r) : RunsD L0 K1 U1 dy1 (lpE r) F69b16 (scan_source_ahead_D_h16 s0 i1 c5 t14) (kB 2 (kB 1 (LQD [] [0, 1] [[0], [1]] (fun (x : (Source × Inst)) (g : Unit) => scan_source_ahead_D_h3 x.1 x.2) r))) := by
 unfold scan_source_ahead_D_j16 at h
 cases hb_3 : (t14 : Bool) with
 | true =>
  replace h := ite_t hb_3 h
  refine CtD <| RoD <| RcD 4 [vp [1] 0 0, vp [1] 0 0, vp [1] 0 0, ⟨.tup [], [([1], some (.cells [.b true, .i i1.Rep, .i i1.Seg, .y i1.Op, .i i1.Mod, .i i1.Reg, .i i1.RM, .w i1.Disp, .w i1.Imm, .w i1.Sel] 0))]⟩] <| RdD <| kB_nrm <| kB_nrm ?_
  obtain rfl := sj h
  exact ⟨rfl, (), Cz⟩
 | false =>
  replace h := ite_f hb_3 h
  refine CfD <| SqD <| RoD <| RcD 3 [vy c5, vb (decide (c5 ≥ 242)), vb (decide (c5 ≥ 242))] ?_
  cases hb_4 : ((decide (c5 ≥ 242)) : Bool) with
  | true =>
   replace h := ite_t hb_4 h
   refine RcD 7 [vp [1] 0 0, vp [1] 0 0, vp [1] 0 1, vi i1.Rep, vb (i1.Rep == 0), vb (i1.Rep == 0), vb (i1.Rep == 0)] <| RkD <| RunsD.canon (scan_source_ahead_D_h20 s0 i1 c5 (i1.Rep == 0)) Cz ?_
   exact scan_source_ahead_D_j20_ok s_ i_ s0 i1 c5 (i1.Rep == 0) r h
  | false =>
   replace h := ite_f hb_4 h
   refine RcD 7 [vn, vn, vn, vn, vn, vb false, vb false] <| RkD <| RunsD.canon (scan_source_ahead_D_h20 s0 i1 c5 false) Cz ?_
   exact scan_source_ahead_D_j20_ok s_ i_ s0 i1 c5 false r h
theorem scan_source_ahead_D_l3_ok (s_ : Source) (i_ : Inst) (s0 : Source) (i1 : Inst) (r : (Lp (Source × Inst) Int)) (h : scan_source_ahead_D_l3 s0 i1 = some r) : RunsD L0 K1 U1 dy1 (lpE r) F69l3 (scan_source_ahead_D_h3 s0 i1) (LQD [] [0, 1] [[0], [1]] (fun (x : (Source × Inst)) (g : Unit) => scan_source_ahead_D_h3 x.1 x.2) r) := by
 unfold scan_source_ahead_D_l3 at h
 refine RunsD.block <| SqD <| RoD <| RcD 1 [vp [0] 0 0] ?_
 rcases orL_s h with ⟨ed_1, hd_1, rfl⟩ | h
 · exact Dz (some 7) 74 [] none [.ptr [0] 0 0] (scan_source_next_D_L s0 ed_1 hd_1)
 obtain ⟨r_1, hr_1, h⟩ := bind_s h
 have hc_1 := scan_source_next_L s0 r_1 hr_1
 refine RtD (some 7) (.callf 74) [] none [.ptr [0] 0 0] (.y r_1.1) [([0], some (.cells [.d (.sl (mY r_1.2.b)), .i r_1.2.at_] 0))] (cut_call (call_of (ws := []) (us := [([0], some (.cells [.d (.sl (mY r_1.2.b)), .i r_1.2.at_] 0))]) (by kernel_rfl) (by kernel_rfl) hc_1 (by kernel_rfl) (by kernel_rfl))) <| RcD 1 [vy r_1.1] <| RkD <| RunsD.block <| SqD <| RoD <| RcD 1 [vy r_1.1] ?_
 obtain ⟨r_2, hr_2, h⟩ := bind_s h
 have hc_2 := isa_Prefix_L r_1.1 r_2 hr_2
 refine RtD (some 11) (.callf 20) [] none [.y r_1.1] (.b r_2) [] (cc hc_2) <| RcD 2 [vb (!r_2), vb (!r_2)] <| RkD ?_
 cases hb_1 : ((!r_2) : Bool) with
 | true =>
  replace h := ite_t hb_1 h
  refine CtD <| SqD <| RoD <| RcD 2 [vy r_1.1, vy r_1.1] <| RkD ?_
  cases h
 | false =>
  replace h := ite_f hb_1 h
  refine CfD <| SqD <| RoD <| RcD 3 [vy r_1.1, vb (r_1.1 == 240), vb (r_1.1 == 240)] ?_
  cases hb_2 : ((r_1.1 == 240) : Bool) with
  | true =>
   replace h := ite_t hb_2 h
   refine RcD 7 [vp [1] 0 0, vp [1] 0 0, vp [1] 0 0, vb i1.Lock, vb (!i1.Lock), vb (!i1.Lock), vb (!i1.Lock)] <| RkD <| RunsD.canon (scan_source_ahead_D_h16 r_1.2 i1 r_1.1 (!i1.Lock)) Cz ?_
   exact scan_source_ahead_D_j16_ok s_ i_ r_1.2 i1 r_1.1 (!i1.Lock) r h
  | false =>
   replace h := ite_f hb_2 h
   refine RcD 7 [vn, vn, vn, vn, vn, vb false, vb false] <| RkD <| RunsD.canon (scan_source_ahead_D_h16 r_1.2 i1 r_1.1 false) Cz ?_
   exact scan_source_ahead_D_j16_ok s_ i_ r_1.2 i1 r_1.1 false r h
theorem scan_source_ahead_D_ok (s_ : Source) (i_ : Inst) (r : Int) (h : scan_source_ahead_D s_ i_ = some r) : RunsD L0 K1 U1 dy1 (some r) F69.body ⟨tmOf [.ptr [0] 0 0, .ptr [1] 0 0] 0, updW (fun _ => none) [([0], some (.cells [.d (.sl (mY s_.b)), .i s_.at_] 0)), ([1], some (.cells [.b i_.Lock, .i i_.Rep, .i i_.Seg, .y i_.Op, .i i_.Mod, .i i_.Reg, .i i_.RM, .w i_.Disp, .w i_.Imm, .w i_.Sel] 0))]⟩ (fun _ => False) := by
 unfold scan_source_ahead_D at h
 refine SqD <| SqD <| RoD <| RcD 1 [vy 0] <| RkD <| RunsD.block ?_
 exact RunsD.loop (fun x : (Source × Inst) => scan_source_ahead_D_l3 x.1 x.2) (fun (x : (Source × Inst)) (g : Unit) => scan_source_ahead_D_h3 x.1 x.2) (fun x g r hr => scan_source_ahead_D_l3_ok s_ i_ x.1 x.2  r hr) () h Cz
theorem scan_source_ahead_D_L (s_ : Source) (i_ : Inst) (r : Int) (h : scan_source_ahead_D s_ i_ = some r) : K1 69 [.ptr [.d (.sl (mY s_.b)), .i s_.at_], .ptr [.b i_.Lock, .i i_.Rep, .i i_.Seg, .y i_.Op, .i i_.Mod, .i i_.Reg, .i i_.RM, .w i_.Disp, .w i_.Imm, .w i_.Sel]] r :=
 dies_fn meets0 ok69 (aa := [.ptr [0] 0 0, .ptr [1] 0 0]) (bx0 := updW (fun _ => none) [([0], some (.cells [.d (.sl (mY s_.b)), .i s_.at_] 0)), ([1], some (.cells [.b i_.Lock, .i i_.Rep, .i i_.Seg, .y i_.Op, .i i_.Mod, .i i_.Reg, .i i_.RM, .w i_.Disp, .w i_.Imm, .w i_.Sel] 0))]) (by kernel_rfl) rfl (by kernel_rfl) (by kernel_rfl) (by kernel_rfl) (scan_source_ahead_D_ok s_ i_ r h)
theorem scan_source_word_D_ok (s_ : Source) (r : Int) (h : scan_source_word_D s_ = some r) : RunsD L0 K1 U1 dy1 (some r) F75.body ⟨tmOf [.ptr [0] 0 0] 0, updW (fun _ => none) [([0], some (.cells [.d (.sl (mY s_.b)), .i s_.at_] 0))]⟩ (fun _ => False) := by
 unfold scan_source_word_D at h
 refine SqD <| RoD <| RcD 1 [vw 0] <| RkD <| SqD <| RoD <| RcD 1 [vp [0] 0 0] ?_
 rcases orD_s h with hd_1 | h
 · exact Dz (some 5) 74 [] none [.ptr [0] 0 0] (scan_source_next_D_L s_ r hd_1)
 obtain ⟨r_1, hr_1, h⟩ := bind_s h
 have hc_1 := scan_source_next_L s_ r_1 hr_1
 refine RtD (some 5) (.callf 74) [] none [.ptr [0] 0 0] (.y r_1.1) [([0], some (.cells [.d (.sl (mY r_1.2.b)), .i r_1.2.at_] 0))] (cut_call (call_of (ws := []) (us := [([0], some (.cells [.d (.sl (mY r_1.2.b)), .i r_1.2.at_] 0))]) (by kernel_rfl) (by kernel_rfl) hc_1 (by kernel_rfl) (by kernel_rfl))) <| RcD 1 [vy r_1.1] <| RkD <| SqD <| RoD <| RcD 2 [vy r_1.1, vp [0] 0 0] ?_
 rcases orD_s h with hd_2 | h
 · exact Dz (some 8) 74 [] none [.ptr [0] 0 0] (scan_source_next_D_L r_1.2 r hd_2)
 obtain ⟨r_2, hr_2, h⟩ := bind_s h
 have hc_2 := scan_source_next_L r_1.2 r_2 hr_2
 refine RtD (some 8) (.callf 74) [] none [.ptr [0] 0 0] (.y r_2.1) [([0], some (.cells [.d (.sl (mY r_2.2.b)), .i r_2.2.at_] 0))] (cut_call (call_of (ws := []) (us := [([0], some (.cells [.d (.sl (mY r_2.2.b)), .i r_2.2.at_] 0))]) (by kernel_rfl) (by kernel_rfl) hc_2 (by kernel_rfl) (by kernel_rfl))) ?_
 obtain ⟨r_3, hr_3, h⟩ := bind_s h
 have hc_3 := bits_Word_L r_1.1 r_2.1 r_3 hr_3
 refine RtD (some 9) (.callf 76) [] none [.y r_1.1, .y r_2.1] (.w r_3) [] (cc hc_3) <| RcD 1 [vw r_3] <| RkD ?_
 cases h
theorem scan_source_word_D_L (s_ : Source) (r : Int) (h : scan_source_word_D s_ = some r) : K1 75 [.ptr [.d (.sl (mY s_.b)), .i s_.at_]] r :=
 dies_fn meets0 ok75 (aa := [.ptr [0] 0 0]) (bx0 := updW (fun _ => none) [([0], some (.cells [.d (.sl (mY s_.b)), .i s_.at_] 0))]) (by kernel_rfl) rfl (by kernel_rfl) (by kernel_rfl) (by kernel_rfl) (scan_source_word_D_ok s_ r h)
theorem scan_source_second_D_ok (s_ : Source) (i_ : Inst) (r : Int) (h : scan_source_second_D s_ i_ = some r) : RunsD L0 K1 U1 dy1 (some r) F70.body ⟨tmOf [.ptr [0] 0 0, .ptr [1] 0 0] 0, updW (fun _ => none) [([0], some (.cells [.d (.sl (mY s_.b)), .i s_.at_] 0)), ([1], some (.cells [.b i_.Lock, .i i_.Rep, .i i_.Seg, .y i_.Op, .i i_.Mod, .i i_.Reg, .i i_.RM, .w i_.Disp, .w i_.Imm, .w i_.Sel] 0))]⟩ (fun _ => False) := by
 unfold scan_source_second_D at h
 refine SqD <| SqD <| RoD <| RcD 1 [vp [0] 0 0] ?_
 rcases orD_s h with hd_1 | h
 · exact Dz (some 6) 74 [] none [.ptr [0] 0 0] (scan_source_next_D_L s_ r hd_1)
 obtain ⟨r_1, hr_1, h⟩ := bind_s h
 have hc_1 := scan_source_next_L s_ r_1 hr_1
 refine RtD (some 6) (.callf 74) [] none [.ptr [0] 0 0] (.y r_1.1) [([0], some (.cells [.d (.sl (mY r_1.2.b)), .i r_1.2.at_] 0))] (cut_call (call_of (ws := []) (us := [([0], some (.cells [.d (.sl (mY r_1.2.b)), .i r_1.2.at_] 0))]) (by kernel_rfl) (by kernel_rfl) hc_1 (by kernel_rfl) (by kernel_rfl))) <| RcD 2 [vi (IntKind.wrap .i64 r_1.1), vi (IntKind.wrap .i64 r_1.1)] <| RkD <| SqD <| RoD <| RcD 19 [vp [1] 0 0, vp [1] 0 0, vp [1] 0 0, vi (IntKind.wrap .i64 r_1.1), vi (shrI .i64 (IntKind.wrap .i64 r_1.1) 6), vi (IntKind.wrap .i64 r_1.1), vi (shrI .i64 (IntKind.wrap .i64 r_1.1) 3), vi (bitsOp .and .i64 (shrI .i64 (IntKind.wrap .i64 r_1.1) 3) 7), vi (IntKind.wrap .i64 r_1.1), vi (bitsOp .and .i64 (IntKind.wrap .i64 r_1.1) 7), vp [1] 0 0, vp [1] 0 4, ⟨.tup [], [([1], some (.cells [.b i_.Lock, .i i_.Rep, .i i_.Seg, .y i_.Op, .i (shrI .i64 (IntKind.wrap .i64 r_1.1) 6), .i i_.Reg, .i i_.RM, .w i_.Disp, .w i_.Imm, .w i_.Sel] 0))]⟩, vp [1] 0 0, vp [1] 0 5, ⟨.tup [], [([1], some (.cells [.b i_.Lock, .i i_.Rep, .i i_.Seg, .y i_.Op, .i (shrI .i64 (IntKind.wrap .i64 r_1.1) 6), .i (bitsOp .and .i64 (shrI .i64 (IntKind.wrap .i64 r_1.1) 3) 7), .i i_.RM, .w i_.Disp, .w i_.Imm, .w i_.Sel] 0))]⟩, vp [1] 0 0, vp [1] 0 6, ⟨.tup [], [([1], some (.cells [.b i_.Lock, .i i_.Rep, .i i_.Seg, .y i_.Op, .i (shrI .i64 (IntKind.wrap .i64 r_1.1) 6), .i (bitsOp .and .i64 (shrI .i64 (IntKind.wrap .i64 r_1.1) 3) 7), .i (bitsOp .and .i64 (IntKind.wrap .i64 r_1.1) 7), .w i_.Disp, .w i_.Imm, .w i_.Sel] 0))]⟩] ?_
 refine RkD <| SqD <| RoD <| RcD 8 [vp [1] 0 0, vp [1] 0 0, vp [1] 0 4, vi (shrI .i64 (IntKind.wrap .i64 r_1.1) 6), vp [1] 0 0, vp [1] 0 0, vp [1] 0 6, vi (bitsOp .and .i64 (IntKind.wrap .i64 r_1.1) 7)] ?_
 obtain ⟨r_2, hr_2, h⟩ := bind_s h
 have hc_2 := inst_Disps_L (shrI .i64 (IntKind.wrap .i64 r_1.1) 6) (bitsOp .and .i64 (IntKind.wrap .i64 r_1.1) 7) r_2 hr_2
 refine RtD (some 32) (.callf 59) [] none [.i (shrI .i64 (IntKind.wrap .i64 r_1.1) 6), .i (bitsOp .and .i64 (IntKind.wrap .i64 r_1.1) 7)] (.i r_2) [] (cc hc_2) <| RkD <| RunsD.block <| SqD <| RoD <| RcD 2 [vb (r_2 == 1), vb (r_2 == 1)] <| RkD ?_
 cases hb_1 : ((r_2 == 1) : Bool) with
 | true =>
  replace h := ite_t hb_1 h
  refine CtD <| RoD <| RcD 2 [vp [1] 0 0, vp [0] 0 0] ?_
  rcases orD_s h with hd_2 | h
  · exact Dz (some 37) 74 [] none [.ptr [0] 0 0] (scan_source_next_D_L r_1.2 r hd_2)
  obtain ⟨r_3, hr_3, h⟩ := bind_s h
  have hc_3 := scan_source_next_L r_1.2 r_3 hr_3
  refine RtD (some 37) (.callf 74) [] none [.ptr [0] 0 0] (.y r_3.1) [([0], some (.cells [.d (.sl (mY r_3.2.b)), .i r_3.2.at_] 0))] (cut_call (call_of (ws := []) (us := [([0], some (.cells [.d (.sl (mY r_3.2.b)), .i r_3.2.at_] 0))]) (by kernel_rfl) (by kernel_rfl) hc_3 (by kernel_rfl) (by kernel_rfl))) ?_
  obtain ⟨r_4, hr_4, h⟩ := bind_s h
  have hc_4 := bits_Sign_L r_3.1 r_4 hr_4
  refine RtD (some 38) (.callf 72) [] none [.y r_3.1] (.w r_4) [] (cc hc_4) <| RcD 3 [vp [1] 0 0, vp [1] 0 7, ⟨.tup [], [([1], some (.cells [.b i_.Lock, .i i_.Rep, .i i_.Seg, .y i_.Op, .i (shrI .i64 (IntKind.wrap .i64 r_1.1) 6), .i (bitsOp .and .i64 (shrI .i64 (IntKind.wrap .i64 r_1.1) 3) 7), .i (bitsOp .and .i64 (IntKind.wrap .i64 r_1.1) 7), .w r_4, .w i_.Imm, .w i_.Sel] 0))]⟩] <| RdD <| kB_nrm ?_
  cases h
 | false =>
  replace h := ite_f hb_1 h
  refine CfD <| SqD <| RoD <| RcD 2 [vb (r_2 == 2), vb (r_2 == 2)] <| RkD ?_
  cases hb_2 : ((r_2 == 2) : Bool) with
  | true =>
   replace h := ite_t hb_2 h
   refine CtD <| RoD <| RcD 2 [vp [1] 0 0, vp [0] 0 0] ?_
   rcases orD_s h with hd_3 | h
   · exact Dz (some 45) 75 [] none [.ptr [0] 0 0] (scan_source_word_D_L r_1.2 r hd_3)
   obtain ⟨r_5, hr_5, h⟩ := bind_s h
   have hc_5 := scan_source_word_L r_1.2 r_5 hr_5
   refine RtD (some 45) (.callf 75) [] none [.ptr [0] 0 0] (.w r_5.1) [([0], some (.cells [.d (.sl (mY r_5.2.b)), .i r_5.2.at_] 0))] (cut_call (call_of (ws := []) (us := [([0], some (.cells [.d (.sl (mY r_5.2.b)), .i r_5.2.at_] 0))]) (by kernel_rfl) (by kernel_rfl) hc_5 (by kernel_rfl) (by kernel_rfl))) <| RcD 3 [vp [1] 0 0, vp [1] 0 7, ⟨.tup [], [([1], some (.cells [.b i_.Lock, .i i_.Rep, .i i_.Seg, .y i_.Op, .i (shrI .i64 (IntKind.wrap .i64 r_1.1) 6), .i (bitsOp .and .i64 (shrI .i64 (IntKind.wrap .i64 r_1.1) 3) 7), .i (bitsOp .and .i64 (IntKind.wrap .i64 r_1.1) 7), .w r_5.1, .w i_.Imm, .w i_.Sel] 0))]⟩] <| RdD <| kB_nrm ?_
   cases h
  | false =>
   replace h := ite_f hb_2 h
   refine CfD <| RunsD.skip <| kB_nrm ?_
   cases h
theorem scan_source_second_D_L (s_ : Source) (i_ : Inst) (r : Int) (h : scan_source_second_D s_ i_ = some r) : K1 70 [.ptr [.d (.sl (mY s_.b)), .i s_.at_], .ptr [.b i_.Lock, .i i_.Rep, .i i_.Seg, .y i_.Op, .i i_.Mod, .i i_.Reg, .i i_.RM, .w i_.Disp, .w i_.Imm, .w i_.Sel]] r :=
 dies_fn meets0 ok70 (aa := [.ptr [0] 0 0, .ptr [1] 0 0]) (bx0 := updW (fun _ => none) [([0], some (.cells [.d (.sl (mY s_.b)), .i s_.at_] 0)), ([1], some (.cells [.b i_.Lock, .i i_.Rep, .i i_.Seg, .y i_.Op, .i i_.Mod, .i i_.Reg, .i i_.RM, .w i_.Disp, .w i_.Imm, .w i_.Sel] 0))]) (by kernel_rfl) rfl (by kernel_rfl) (by kernel_rfl) (by kernel_rfl) (scan_source_second_D_ok s_ i_ r h)
theorem scan_source_behind_D_ok (s_ : Source) (i_ : Inst) (r_ : Row) (r : Int) (h : scan_source_behind_D s_ i_ r_ = some r) : RunsD L0 K1 U1 dy1 (some r) F71.body ⟨tmOf [.ptr [0] 0 0, .ptr [1] 0 0, .d (Row.d r_)] 0, updW (fun _ => none) [([0], some (.cells [.d (.sl (mY s_.b)), .i s_.at_] 0)), ([1], some (.cells [.b i_.Lock, .i i_.Rep, .i i_.Seg, .y i_.Op, .i i_.Mod, .i i_.Reg, .i i_.RM, .w i_.Disp, .w i_.Imm, .w i_.Sel] 0))]⟩ (fun _ => False) := by
 unfold scan_source_behind_D at h
 refine SqD <| SqD <| RoD <| RcD 1 [⟨.ptr [5] 0 0, [([5], some (.cells [.i r_.Name, .i r_.A, .i r_.B, .b r_.Mod] 0))]⟩] <| RkD <| SqD <| RoD <| RcD 1 [⟨.d (Row.d r_), []⟩] ?_
 obtain ⟨r_1, hr_1, h⟩ := bind_s h
 have hc_1 := inst_Imms_L r_ r_1 hr_1
 refine RtD (some 7) (.callf 64) [] none [.d (Row.d r_)] (.i r_1) [] (cc hc_1) <| RkD <| RunsD.block <| SqD <| RoD <| RcD 2 [vb (r_1 == 1), vb (r_1 == 1)] <| RkD ?_
 cases hb_1 : ((r_1 == 1) : Bool) with
 | true =>
  replace h := ite_t hb_1 h
  refine CtD <| SqD <| RoD <| RcD 2 [vp [1] 0 0, vp [0] 0 0] ?_
  rcases orD_s h with hd_1 | h
  · exact Dz (some 12) 74 [] none [.ptr [0] 0 0] (scan_source_next_D_L s_ r hd_1)
  obtain ⟨r_2, hr_2, h⟩ := bind_s h
  have hc_2 := scan_source_next_L s_ r_2 hr_2
  refine RtD (some 12) (.callf 74) [] none [.ptr [0] 0 0] (.y r_2.1) [([0], some (.cells [.d (.sl (mY r_2.2.b)), .i r_2.2.at_] 0))] (cut_call (call_of (ws := []) (us := [([0], some (.cells [.d (.sl (mY r_2.2.b)), .i r_2.2.at_] 0))]) (by kernel_rfl) (by kernel_rfl) hc_2 (by kernel_rfl) (by kernel_rfl))) <| RcD 4 [vw (IntKind.wrap .u16 r_2.1), vp [1] 0 0, vp [1] 0 8, ⟨.tup [], [([1], some (.cells [.b i_.Lock, .i i_.Rep, .i i_.Seg, .y i_.Op, .i i_.Mod, .i i_.Reg, .i i_.RM, .w i_.Disp, .w (IntKind.wrap .u16 r_2.1), .w i_.Sel] 0))]⟩] <| RkD <| SqD <| RoD <| RcD 4 [vp [5] 0 1, vi r_.A, vb (r_.A == 9), vb (r_.A == 9)] ?_
  cases hb_2 : ((r_.A == 9) : Bool) with
  | true =>
   replace h := ite_t hb_2 h
   refine RcD 4 [vn, vn, vn, vb true] <| RkD <| CtD <| RoD <| RcD 5 [vp [1] 0 0, vp [1] 0 0, vp [1] 0 0, vp [1] 0 8, vw (IntKind.wrap .u16 r_2.1)] ?_
   obtain ⟨r_3, hr_3, h⟩ := bind_s h
   have hc_3 := bits_Low_L (IntKind.wrap .u16 r_2.1) r_3 hr_3
   refine RtD (some 29) (.callf 73) [] none [.w (IntKind.wrap .u16 r_2.1)] (.y r_3) [] (cc hc_3) ?_
   obtain ⟨r_4, hr_4, h⟩ := bind_s h
   have hc_4 := bits_Sign_L r_3 r_4 hr_4
   refine RtD (some 30) (.callf 72) [] none [.y r_3] (.w r_4) [] (cc hc_4) <| RcD 3 [vp [1] 0 0, vp [1] 0 8, ⟨.tup [], [([1], some (.cells [.b i_.Lock, .i i_.Rep, .i i_.Seg, .y i_.Op, .i i_.Mod, .i i_.Reg, .i i_.RM, .w i_.Disp, .w r_4, .w i_.Sel] 0))]⟩] <| RdD <| kB_nrm ?_
   cases h
  | false =>
   replace h := ite_f hb_2 h
   refine RcD 4 [vp [5] 0 2, vi r_.B, vb (r_.B == 8), vb (r_.B == 8)] <| RkD ?_
   cases hb_3 : ((r_.B == 8) : Bool) with
   | true =>
    replace h := ite_t hb_3 h
    refine CtD <| RoD <| RcD 5 [vp [1] 0 0, vp [1] 0 0, vp [1] 0 0, vp [1] 0 8, vw (IntKind.wrap .u16 r_2.1)] ?_
    obtain ⟨r_5, hr_5, h⟩ := bind_s h
    have hc_5 := bits_Low_L (IntKind.wrap .u16 r_2.1) r_5 hr_5
    refine RtD (some 29) (.callf 73) [] none [.w (IntKind.wrap .u16 r_2.1)] (.y r_5) [] (cc hc_5) ?_
    obtain ⟨r_6, hr_6, h⟩ := bind_s h
    have hc_6 := bits_Sign_L r_5 r_6 hr_6
    refine RtD (some 30) (.callf 72) [] none [.y r_5] (.w r_6) [] (cc hc_6) <| RcD 3 [vp [1] 0 0, vp [1] 0 8, ⟨.tup [], [([1], some (.cells [.b i_.Lock, .i i_.Rep, .i i_.Seg, .y i_.Op, .i i_.Mod, .i i_.Reg, .i i_.RM, .w i_.Disp, .w r_6, .w i_.Sel] 0))]⟩] <| RdD <| kB_nrm ?_
    cases h
   | false =>
    replace h := ite_f hb_3 h
    refine CfD <| RunsD.skip <| kB_nrm ?_
    cases h
 | false =>
  replace h := ite_f hb_1 h
  refine CfD <| SqD <| RoD <| RcD 2 [vb (r_1 == 2), vb (r_1 == 2)] <| RkD ?_
  cases hb_4 : ((r_1 == 2) : Bool) with
  | true =>
   replace h := ite_t hb_4 h
   refine CtD <| RoD <| RcD 2 [vp [1] 0 0, vp [0] 0 0] ?_
   rcases orD_s h with hd_2 | h
   · exact Dz (some 37) 75 [] none [.ptr [0] 0 0] (scan_source_word_D_L s_ r hd_2)
   obtain ⟨r_7, hr_7, h⟩ := bind_s h
   have hc_7 := scan_source_word_L s_ r_7 hr_7
   refine RtD (some 37) (.callf 75) [] none [.ptr [0] 0 0] (.w r_7.1) [([0], some (.cells [.d (.sl (mY r_7.2.b)), .i r_7.2.at_] 0))] (cut_call (call_of (ws := []) (us := [([0], some (.cells [.d (.sl (mY r_7.2.b)), .i r_7.2.at_] 0))]) (by kernel_rfl) (by kernel_rfl) hc_7 (by kernel_rfl) (by kernel_rfl))) <| RcD 3 [vp [1] 0 0, vp [1] 0 8, ⟨.tup [], [([1], some (.cells [.b i_.Lock, .i i_.Rep, .i i_.Seg, .y i_.Op, .i i_.Mod, .i i_.Reg, .i i_.RM, .w i_.Disp, .w r_7.1, .w i_.Sel] 0))]⟩] <| RdD <| kB_nrm ?_
   cases h
  | false =>
   replace h := ite_f hb_4 h
   refine CfD <| SqD <| RoD <| RcD 2 [vb (r_1 == 4), vb (r_1 == 4)] <| RkD ?_
   cases hb_5 : ((r_1 == 4) : Bool) with
   | true =>
    replace h := ite_t hb_5 h
    refine CtD <| SqD <| RoD <| RcD 2 [vp [1] 0 0, vp [0] 0 0] ?_
    rcases orD_s h with hd_3 | h
    · exact Dz (some 44) 75 [] none [.ptr [0] 0 0] (scan_source_word_D_L s_ r hd_3)
    obtain ⟨r_8, hr_8, h⟩ := bind_s h
    have hc_8 := scan_source_word_L s_ r_8 hr_8
    refine RtD (some 44) (.callf 75) [] none [.ptr [0] 0 0] (.w r_8.1) [([0], some (.cells [.d (.sl (mY r_8.2.b)), .i r_8.2.at_] 0))] (cut_call (call_of (ws := []) (us := [([0], some (.cells [.d (.sl (mY r_8.2.b)), .i r_8.2.at_] 0))]) (by kernel_rfl) (by kernel_rfl) hc_8 (by kernel_rfl) (by kernel_rfl))) <| RcD 3 [vp [1] 0 0, vp [1] 0 8, ⟨.tup [], [([1], some (.cells [.b i_.Lock, .i i_.Rep, .i i_.Seg, .y i_.Op, .i i_.Mod, .i i_.Reg, .i i_.RM, .w i_.Disp, .w r_8.1, .w i_.Sel] 0))]⟩] <| RkD <| RoD <| RcD 2 [vp [1] 0 0, vp [0] 0 0] ?_
    rcases orD_s h with hd_4 | h
    · exact Dz (some 49) 75 [] none [.ptr [0] 0 0] (scan_source_word_D_L r_8.2 r hd_4)
    obtain ⟨r_9, hr_9, h⟩ := bind_s h
    have hc_9 := scan_source_word_L r_8.2 r_9 hr_9
    refine RtD (some 49) (.callf 75) [] none [.ptr [0] 0 0] (.w r_9.1) [([0], some (.cells [.d (.sl (mY r_9.2.b)), .i r_9.2.at_] 0))] (cut_call (call_of (ws := []) (us := [([0], some (.cells [.d (.sl (mY r_9.2.b)), .i r_9.2.at_] 0))]) (by kernel_rfl) (by kernel_rfl) hc_9 (by kernel_rfl) (by kernel_rfl))) <| RcD 3 [vp [1] 0 0, vp [1] 0 9, ⟨.tup [], [([1], some (.cells [.b i_.Lock, .i i_.Rep, .i i_.Seg, .y i_.Op, .i i_.Mod, .i i_.Reg, .i i_.RM, .w i_.Disp, .w r_8.1, .w r_9.1] 0))]⟩] <| RdD <| kB_nrm ?_
    cases h
   | false =>
    replace h := ite_f hb_5 h
    refine CfD <| RunsD.skip <| kB_nrm ?_
    cases h
theorem scan_source_behind_D_L (s_ : Source) (i_ : Inst) (r_ : Row) (r : Int) (h : scan_source_behind_D s_ i_ r_ = some r) : K1 71 [.ptr [.d (.sl (mY s_.b)), .i s_.at_], .ptr [.b i_.Lock, .i i_.Rep, .i i_.Seg, .y i_.Op, .i i_.Mod, .i i_.Reg, .i i_.RM, .w i_.Disp, .w i_.Imm, .w i_.Sel], .d (Row.d r_)] r :=
 dies_fn meets0 ok71 (aa := [.ptr [0] 0 0, .ptr [1] 0 0, .d (Row.d r_)]) (bx0 := updW (fun _ => none) [([0], some (.cells [.d (.sl (mY s_.b)), .i s_.at_] 0)), ([1], some (.cells [.b i_.Lock, .i i_.Rep, .i i_.Seg, .y i_.Op, .i i_.Mod, .i i_.Reg, .i i_.RM, .w i_.Disp, .w i_.Imm, .w i_.Sel] 0))]) (by kernel_rfl) rfl (by kernel_rfl) (by kernel_rfl) (by kernel_rfl) (scan_source_behind_D_ok s_ i_ r_ r h)
def scan_source_take_D_h12 (s0 : Source) (b_2 : Inst) (i3 : Inst) : St := ⟨tab [(0, .ptr [0] 0 0), (2, .ptr [2] 0 0), (3, .ptr [3] 0 0)], tabB [([0], some (.cells [.d (.sl (mY s0.b)), .i s0.at_] 0)), ([2], some (.cells [.b b_2.Lock, .i b_2.Rep, .i b_2.Seg, .y b_2.Op, .i b_2.Mod, .i b_2.Reg, .i b_2.RM, .w b_2.Disp, .w b_2.Imm, .w b_2.Sel] 0)), ([3], some (.cells [.b i3.Lock, .i i3.Rep, .i i3.Seg, .y i3.Op, .i i3.Mod, .i i3.Reg, .i i3.RM, .w i3.Disp, .w i3.Imm, .w i3.Sel] 0))]⟩
theorem scan_source_take_D_j12_ok (s_ : Source) (s0 : Source) (b_2 : Inst) (i3 : Inst) (r : Int) (h : scan_source_take_D_j12 s0 b_2 i3 = some r) : RunsD L0 K1 U1 dy1 (some r) F66b12 (scan_source_take_D_h12 s0 b_2 i3) (fun _ => False) := by
 unfold scan_source_take_D_j12 at h
 refine SqD <| RoD <| RcD 4 [vp [3] 0 3, vy i3.Op, vp [3] 0 5, vi i3.Reg] ?_
 obtain ⟨r_4, hr_4, h⟩ := bind_s h
 have hc_4 := isa_Of_L i3.Op i3.Reg r_4 hr_4
 refine RtD (some 19) (.callf 11) [] none [.y i3.Op, .i i3.Reg] (.tup [.d (Row.d r_4.1), .b r_4.2]) [] (cc hc_4) <| RcD 6 [⟨.tup [.d (Row.d r_4.1), .b r_4.2], []⟩, ⟨.d (Row.d r_4.1), []⟩, vb r_4.2, ⟨.ptr [4] 0 0, [([4], some (.cells [.i 0, .i 0, .i 0, .b false] 0))]⟩, ⟨.tup [], [([4], some (.cells [.i r_4.1.Name, .i r_4.1.A, .i r_4.1.B, .b r_4.1.Mod] 0))]⟩, vb r_4.2] <| RkD <| SqD <| SqD <| RoD <| RcD 2 [vb r_4.2, vb (!r_4.2)] <| RkD ?_
 cases hb_2 : ((!r_4.2) : Bool) with
 | true =>
  replace h := ite_t hb_2 h
  refine CtD ?_
  obtain rfl := sj h
  exact RunsD.pan
 | false =>
  replace h := ite_f hb_2 h
  refine CfD <| RunsD.skip <| kSD_nrm <| SqD <| RoD <| RcD 2 [vp [0] 0 0, ⟨.d (Row.d r_4.1), []⟩] ?_
  rcases orD_s h with hd_3 | h
  · exact Dz (some 27) 71 [] none [.ptr [0] 0 0, .ptr [3] 0 0, .d (Row.d r_4.1)] (scan_source_behind_D_L s0 i3 r_4.1 r hd_3)
  obtain ⟨r_5, hr_5, h⟩ := bind_s h
  have hc_5 := scan_source_behind_L s0 i3 r_4.1 r_5 hr_5
  refine RtD (some 27) (.callf 71) [] none [.ptr [0] 0 0, .ptr [3] 0 0, .d (Row.d r_4.1)] (.tup []) [([0], some (.cells [.d (.sl (mY r_5.2.b)), .i r_5.2.at_] 0)), ([3], some (.cells [.b r_5.1.Lock, .i r_5.1.Rep, .i r_5.1.Seg, .y r_5.1.Op, .i r_5.1.Mod, .i r_5.1.Reg, .i r_5.1.RM, .w r_5.1.Disp, .w r_5.1.Imm, .w r_5.1.Sel] 0))] (cut_call (call_of (ws := []) (us := [([0], some (.cells [.d (.sl (mY r_5.2.b)), .i r_5.2.at_] 0)), ([3], some (.cells [.b r_5.1.Lock, .i r_5.1.Rep, .i r_5.1.Seg, .y r_5.1.Op, .i r_5.1.Mod, .i r_5.1.Reg, .i r_5.1.RM, .w r_5.1.Disp, .w r_5.1.Imm, .w r_5.1.Sel] 0))]) (by kernel_rfl) (by kernel_rfl) hc_5 (by kernel_rfl) (by kernel_rfl))) <| RkD <| SqD <| SqD <| RoD <| RcD 1 [⟨.d (Inst.d r_5.1), []⟩] ?_
  obtain ⟨r_6, hr_6, h⟩ := bind_s h
  have hc_6 := inst_May_L r_5.1 r_6 hr_6
  refine RtD (some 29) (.callf 30) [] none [.d (Inst.d r_5.1)] (.b r_6) [] (cc hc_6) <| RcD 1 [vb (!r_6)] <| RkD ?_
  cases hb_3 : ((!r_6) : Bool) with
  | true =>
   replace h := ite_t hb_3 h
   refine CtD ?_
   obtain rfl := sj h
   exact RunsD.pan
  | false =>
   replace h := ite_f hb_3 h
   refine CfD <| RunsD.skip <| kSD_nrm <| SqD <| RoD <| RcD 2 [⟨.d (Inst.d r_5.1), []⟩, ⟨.tup [], [([2], some (.cells [.b r_5.1.Lock, .i r_5.1.Rep, .i r_5.1.Seg, .y r_5.1.Op, .i r_5.1.Mod, .i r_5.1.Reg, .i r_5.1.RM, .w r_5.1.Disp, .w r_5.1.Imm, .w r_5.1.Sel] 0))]⟩] <| RkD ?_
   cases h
theorem scan_source_take_D_ok (s_ : Source) (r : Int) (h : scan_source_take_D s_ = some r) : RunsD L0 K1 U1 dy1 (some r) F66.body ⟨tmOf [.ptr [0] 0 0] 0, updW (fun _ => none) [([0], some (.cells [.d (.sl (mY s_.b)), .i s_.at_] 0))]⟩ (fun _ => False) := by
 unfold scan_source_take_D at h
 refine SqD <| RoD <| RcD 1 [⟨.ptr [2] 0 0, [([2], some (.cells [.b false, .i 0, .i 0, .y 0, .i 0, .i 0, .i 0, .w 0, .w 0, .w 0] 0))]⟩] <| RkD <| SqD <| RoD <| RcD 1 [⟨.ptr [3] 0 0, [([3], some (.cells [.b false, .i 0, .i 0, .y 0, .i 0, .i 0, .i 0, .w 0, .w 0, .w 0] 0))]⟩] <| RkD <| SqD <| RoD <| RcD 1 [vp [0] 0 0] ?_
 rcases orD_s h with hd_1 | h
 · exact Dz (some 7) 69 [] none [.ptr [0] 0 0, .ptr [3] 0 0] (scan_source_ahead_D_L s_ ({ Lock := false, Rep := 0, Seg := 0, Op := 0, Mod := 0, Reg := 0, RM := 0, Disp := 0, Imm := 0, Sel := 0 } : Inst) r hd_1)
 obtain ⟨r_1, hr_1, h⟩ := bind_s h
 have hc_1 := scan_source_ahead_L s_ ({ Lock := false, Rep := 0, Seg := 0, Op := 0, Mod := 0, Reg := 0, RM := 0, Disp := 0, Imm := 0, Sel := 0 } : Inst) r_1 hr_1
 refine RtD (some 7) (.callf 69) [] none [.ptr [0] 0 0, .ptr [3] 0 0] (.y r_1.1) [([0], some (.cells [.d (.sl (mY r_1.2.1.b)), .i r_1.2.1.at_] 0)), ([3], some (.cells [.b r_1.2.2.Lock, .i r_1.2.2.Rep, .i r_1.2.2.Seg, .y r_1.2.2.Op, .i r_1.2.2.Mod, .i r_1.2.2.Reg, .i r_1.2.2.RM, .w r_1.2.2.Disp, .w r_1.2.2.Imm, .w r_1.2.2.Sel] 0))] (cut_call (call_of (ws := []) (us := [([0], some (.cells [.d (.sl (mY r_1.2.1.b)), .i r_1.2.1.at_] 0)), ([3], some (.cells [.b r_1.2.2.Lock, .i r_1.2.2.Rep, .i r_1.2.2.Seg, .y r_1.2.2.Op, .i r_1.2.2.Mod, .i r_1.2.2.Reg, .i r_1.2.2.RM, .w r_1.2.2.Disp, .w r_1.2.2.Imm, .w r_1.2.2.Sel] 0))]) (by kernel_rfl) (by kernel_rfl) hc_1 (by kernel_rfl) (by kernel_rfl))) <| RcD 2 [vp [3] 0 3, ⟨.tup [], [([3], some (.cells [.b r_1.2.2.Lock, .i r_1.2.2.Rep, .i r_1.2.2.Seg, .y r_1.1, .i r_1.2.2.Mod, .i r_1.2.2.Reg, .i r_1.2.2.RM, .w r_1.2.2.Disp, .w r_1.2.2.Imm, .w r_1.2.2.Sel] 0))]⟩] <| RkD <| SqD <| SqD <| RoD <| RcD 2 [vp [3] 0 3, vy r_1.1] ?_
 obtain ⟨r_2, hr_2, h⟩ := bind_s h
 have hc_2 := isa_Two_L r_1.1 r_2 hr_2
 refine RtD (some 11) (.callf 23) [] none [.y r_1.1] (.b r_2) [] (cc hc_2) <| RkD ?_
 cases hb_1 : (r_2 : Bool) with
 | true =>
  replace h := ite_t hb_1 h
  refine CtD <| RoD <| RcD 1 [vp [0] 0 0] ?_
  rcases orD_s h with hd_2 | h
  · exact Dz (some 13) 70 [] none [.ptr [0] 0 0, .ptr [3] 0 0] (scan_source_second_D_L r_1.2.1 ({ r_1.2.2 with Op := r_1.1 } : Inst) r hd_2)
  obtain ⟨r_3, hr_3, h⟩ := bind_s h
  have hc_3 := scan_source_second_L r_1.2.1 ({ r_1.2.2 with Op := r_1.1 } : Inst) r_3 hr_3
  refine RtD (some 13) (.callf 70) [] none [.ptr [0] 0 0, .ptr [3] 0 0] (.tup []) [([0], some (.cells [.d (.sl (mY r_3.2.b)), .i r_3.2.at_] 0)), ([3], some (.cells [.b r_3.1.Lock, .i r_3.1.Rep, .i r_3.1.Seg, .y r_3.1.Op, .i r_3.1.Mod, .i r_3.1.Reg, .i r_3.1.RM, .w r_3.1.Disp, .w r_3.1.Imm, .w r_3.1.Sel] 0))] (cut_call (call_of (ws := []) (us := [([0], some (.cells [.d (.sl (mY r_3.2.b)), .i r_3.2.at_] 0)), ([3], some (.cells [.b r_3.1.Lock, .i r_3.1.Rep, .i r_3.1.Seg, .y r_3.1.Op, .i r_3.1.Mod, .i r_3.1.Reg, .i r_3.1.RM, .w r_3.1.Disp, .w r_3.1.Imm, .w r_3.1.Sel] 0))]) (by kernel_rfl) (by kernel_rfl) hc_3 (by kernel_rfl) (by kernel_rfl))) <| RkD <| RunsD.canon (scan_source_take_D_h12 r_3.2 ({ Lock := false, Rep := 0, Seg := 0, Op := 0, Mod := 0, Reg := 0, RM := 0, Disp := 0, Imm := 0, Sel := 0 } : Inst) r_3.1) Cz ?_
  exact scan_source_take_D_j12_ok s_ r_3.2 ({ Lock := false, Rep := 0, Seg := 0, Op := 0, Mod := 0, Reg := 0, RM := 0, Disp := 0, Imm := 0, Sel := 0 } : Inst) r_3.1 r h
 | false =>
  replace h := ite_f hb_1 h
  refine CfD <| RunsD.skip <| kSD_nrm <| RunsD.canon (scan_source_take_D_h12 r_1.2.1 ({ Lock := false, Rep := 0, Seg := 0, Op := 0, Mod := 0, Reg := 0, RM := 0, Disp := 0, Imm := 0, Sel := 0 } : Inst) ({ r_1.2.2 with Op := r_1.1 } : Inst)) Cz ?_
  exact scan_source_take_D_j12_ok s_ r_1.2.1 ({ Lock := false, Rep := 0, Seg := 0, Op := 0, Mod := 0, Reg := 0, RM := 0, Disp := 0, Imm := 0, Sel := 0 } : Inst) ({ r_1.2.2 with Op := r_1.1 } : Inst) r h
theorem scan_source_take_D_L (s_ : Source) (r : Int) (h : scan_source_take_D s_ = some r) : K1 66 [.ptr [.d (.sl (mY s_.b)), .i s_.at_]] r :=
 dies_fn meets0 ok66 (aa := [.ptr [0] 0 0]) (bx0 := updW (fun _ => none) [([0], some (.cells [.d (.sl (mY s_.b)), .i s_.at_] 0))]) (by kernel_rfl) rfl (by kernel_rfl) (by kernel_rfl) (by kernel_rfl) (scan_source_take_D_ok s_ r h)
end Go.Es.Sca
