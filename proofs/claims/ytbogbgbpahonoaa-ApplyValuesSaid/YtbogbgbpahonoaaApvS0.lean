/- The interpreter answers as plain Lean does: part 1. No condition. -/
import Derived.Test.YtbogbgbpahonoaaApvF
import Derived.Test.YtbogbgbpahonoaaApvP
import Derived.KernelRfl
set_option linter.unusedVariables false
set_option linter.unusedSimpArgs false
set_option maxRecDepth 100000
set_option maxHeartbeats 4000000
namespace Go.Es.Apv
theorem hansomlaw42_awake_L (r : Bool) (h : hansomlaw42_awake = some r) : L 29 [] = some (.d (.bool r), []) := by
  cases h
  exact (lim_iff (F := tab1)).2 ⟨100, by kernel_rfl⟩
def hansomref25_Size_Q (loc_ : Int) (r : Int) (p : Out × St) : Prop := (∀ i, p.1 ≠ .exit i) ∧ finF F30 [.i loc_] p.2 = some (.i r, [.i loc_])
theorem hansomref25_Size_ok (loc_ : Int) (r : Int) (h : hansomref25_Size loc_ = some r) : Runs L F30.body ⟨tmOf [.i loc_] 0, updW (fun _ => none) []⟩ (hansomref25_Size_Q loc_ r) := by
 unfold hansomref25_Size at h
 refine Sq <| Ro <| Rc 1 [vi 0] <| Rk <| Sq <| Sq <| Ro <| Rc 3 [vi loc_, vb (loc_ == 0), vb (loc_ == 0)] ?_
 cases hb_1 : ((loc_ == 0) : Bool) with
 | true =>
  replace h := ite_t hb_1 h
  refine Rc 3 [vn, vn, vb true] <| Rk <| Ct <| Sq <| Ro <| Rc 1 [vi 1] <| Rk <| Runs.ret <| kS_ret ?_
  cases h
  exact Fq
 | false =>
  replace h := ite_f hb_1 h
  refine Rc 3 [vi loc_, vb (loc_ == 4), vb (loc_ == 4)] <| Rk ?_
  cases hb_2 : ((loc_ == 4) : Bool) with
  | true =>
   replace h := ite_t hb_2 h
   refine Ct <| Sq <| Ro <| Rc 1 [vi 1] <| Rk <| Runs.ret <| kS_ret ?_
   cases h
   exact Fq
  | false =>
   replace h := ite_f hb_2 h
   refine Cf <| Runs.skip <| kS_nrm <| Sq <| Sq <| Ro <| Rc 2 [vi loc_, vb (loc_ == 3)] <| Rk ?_
   cases hb_3 : ((loc_ == 3) : Bool) with
   | true =>
    replace h := ite_t hb_3 h
    refine Ct <| Sq <| Ro <| Rc 1 [vi 4] <| Rk <| Runs.ret <| kS_ret ?_
    cases h
    exact Fq
   | false =>
    replace h := ite_f hb_3 h
    refine Cf <| Runs.skip <| kS_nrm <| Sq <| Ro <| Rc 1 [vi 2] <| Rk <| Runs.ret ?_
    cases h
    exact Fq
theorem hansomref25_Size_L (loc_ : Int) (r : Int) (h : hansomref25_Size loc_ = some r) : L 30 [.i loc_] = some (.i r, [.i loc_]) := by
 obtain ⟨p, ⟨hne, hf⟩, hr⟩ := hansomref25_Size_ok loc_ r h
 obtain ⟨k, hk⟩ := run_of (F := F30) (args := [.i loc_]) (ap := [.i loc_]) (bx0 := updW (fun _ => none) []) rfl rfl (by kernel_rfl) ⟨p, ⟨hne, hf⟩, hr⟩
 exact lim_run (k := k) rfl hk
def hansomref25_Near_h6 (f3 : Fixup) (many5 : (A3 Int)) (x6 : Fixup) (n1 : Int) : St := ⟨tab [(1, .i n1), (3, .ptr [3] 0 0), (5, .ptr [5] 0 0), (6, .ptr [6] 0 0)], tabB [([3], some (.cells [.i f3.At, .i f3.Loc, .b f3.Self, .i f3.Frame, .i f3.FrameN, .i f3.Target, .i f3.N, .w f3.Disp] 0)), ([5], some (.cells [.i many5.a0, .i many5.a1, .i many5.a2] 0)), ([6], some (.cells [.i x6.At, .i x6.Loc, .b x6.Self, .i x6.Frame, .i x6.FrameN, .i x6.Target, .i x6.N, .w x6.Disp] 0))]⟩
def hansomref25_Near_h12 (f3 : Fixup) (many5 : (A3 Int)) (x6 : Fixup) : St := ⟨tab [(3, .ptr [3] 0 0), (5, .ptr [5] 0 0), (6, .ptr [6] 0 0)], tabB [([3], some (.cells [.i f3.At, .i f3.Loc, .b f3.Self, .i f3.Frame, .i f3.FrameN, .i f3.Target, .i f3.N, .w f3.Disp] 0)), ([5], some (.cells [.i many5.a0, .i many5.a1, .i many5.a2] 0)), ([6], some (.cells [.i x6.At, .i x6.Loc, .b x6.Self, .i x6.Frame, .i x6.FrameN, .i x6.Target, .i x6.N, .w x6.Disp] 0))]⟩
def hansomref25_Near_h21 (f3 : Fixup) (many5 : (A3 Int)) (x6 : Fixup) : St := ⟨tab [(3, .ptr [3] 0 0), (5, .ptr [5] 0 0), (6, .ptr [6] 0 0)], tabB [([3], some (.cells [.i f3.At, .i f3.Loc, .b f3.Self, .i f3.Frame, .i f3.FrameN, .i f3.Target, .i f3.N, .w f3.Disp] 0)), ([5], some (.cells [.i many5.a0, .i many5.a1, .i many5.a2] 0)), ([6], some (.cells [.i x6.At, .i x6.Loc, .b x6.Self, .i x6.Frame, .i x6.FrameN, .i x6.Target, .i x6.N, .w x6.Disp] 0))]⟩
def hansomref25_Near_h27 (f3 : Fixup) (many5 : (A3 Int)) (x6 : Fixup) : St := ⟨tab [(3, .ptr [3] 0 0), (5, .ptr [5] 0 0), (6, .ptr [6] 0 0)], tabB [([3], some (.cells [.i f3.At, .i f3.Loc, .b f3.Self, .i f3.Frame, .i f3.FrameN, .i f3.Target, .i f3.N, .w f3.Disp] 0)), ([5], some (.cells [.i many5.a0, .i many5.a1, .i many5.a2] 0)), ([6], some (.cells [.i x6.At, .i x6.Loc, .b x6.Self, .i x6.Frame, .i x6.FrameN, .i x6.Target, .i x6.N, .w x6.Disp] 0))]⟩
def hansomref25_Near_h33 (f3 : Fixup) (many5 : (A3 Int)) (x6 : Fixup) : St := ⟨tab [(3, .ptr [3] 0 0), (5, .ptr [5] 0 0), (6, .ptr [6] 0 0)], tabB [([3], some (.cells [.i f3.At, .i f3.Loc, .b f3.Self, .i f3.Frame, .i f3.FrameN, .i f3.Target, .i f3.N, .w f3.Disp] 0)), ([5], some (.cells [.i many5.a0, .i many5.a1, .i many5.a2] 0)), ([6], some (.cells [.i x6.At, .i x6.Loc, .b x6.Self, .i x6.Frame, .i x6.FrameN, .i x6.Target, .i x6.N, .w x6.Disp] 0))]⟩
def hansomref25_Near_Q (f_ : Fixup) (n_ : Int) (many_ : (A3 Int)) (r : Fixup) (p : Out × St) : Prop := (∀ i, p.1 ≠ .exit i) ∧ finF F27 [.d (Fixup.d f_), .i n_, .d (.agg [.int .i64 many_.a0, .int .i64 many_.a1, .int .i64 many_.a2])] p.2 = some (.d (Fixup.d r), [.d (Fixup.d f_), .i n_, .d (.agg [.int .i64 many_.a0, .int .i64 many_.a1, .int .i64 many_.a2])])
def hansomref25_Near_P12 (f_ : Fixup) (n_ : Int) (many_ : (A3 Int)) (f3 : Fixup) (many5 : (A3 Int)) (e : Fixup) (p : Out × St) : Prop := p.1 = .exit 0 ∧ ∃ g : Unit, Canon [] [3, 5, 6] [[3], [5], [6]] p.2 (hansomref25_Near_h21 f3 many5 e)
theorem hansomref25_Near_l12_ok (f_ : Fixup) (n_ : Int) (many_ : (A3 Int)) (f3 : Fixup) (many5 : (A3 Int)) (x6 : Fixup) (r : (Lp Fixup Fixup)) (h : hansomref25_Near_l12 f3 many5 x6 = some r) : Runs L F27l12 (hansomref25_Near_h12 f3 many5 x6) (LQ [] [3, 5, 6] [[3], [5], [6]] (fun (x : Fixup) (g : Unit) => hansomref25_Near_h12 f3 many5 x) (hansomref25_Near_P12 f_ n_ many_ f3 many5) r) := by
 unfold hansomref25_Near_l12 at h
 refine Sq <| Sq <| Ro <| Rc 2 [vp [6] 0 5, vi x6.Target] ?_
 obtain ⟨z_2, hz_2, h⟩ := bind_s h
 refine Rt (some 44) (.iaddrA 3 1) [] none [.ptr [5] 0 0, .i x6.Target] (.ptr [5] 0 (0 + (x6.Target).toNat * 1)) [] (cut_iaA (l := many5.l) hz_2 rfl) <| Rt (some 45) (.load none) [] none [.ptr [5] 0 (0 + (x6.Target).toNat * 1)] (.i z_2) [] (cut_ldA (e := (D.int .i64)) (l := many5.l) (y := z_2) hz_2 (by kernel_rfl) (by kernel_rfl)) <| Rc 1 [vb (z_2 == 0)] <| Rk ?_
 cases hb_2 : ((z_2 == 0) : Bool) with
 | true =>
  replace h := ite_t hb_2 h
  refine Ct <| Runs.skip <| kS_nrm <| Runs.block <| Ro <| Rc 6 [vp [6] 0 5, vi x6.Target, vi (IntKind.wrap .i64 (x6.Target + 1)), vi (Int.tmod (IntKind.wrap .i64 (x6.Target + 1)) 3), vp [6] 0 5, ⟨.tup [], [([6], some (.cells [.i x6.At, .i x6.Loc, .b x6.Self, .i x6.Frame, .i x6.FrameN, .i (Int.tmod (IntKind.wrap .i64 (x6.Target + 1)) 3), .i x6.N, .w x6.Disp] 0))]⟩] <| Rd <| kB_nrm ?_
  obtain rfl := sj h
  exact ⟨rfl, (), Cz⟩
 | false =>
  replace h := ite_f hb_2 h
  refine Cf <| Runs.exit <| kS_exit ?_
  obtain rfl := sj h
  exact ⟨nofun, rfl, (), Cz⟩
theorem hansomref25_Near_j33_ok (f_ : Fixup) (n_ : Int) (many_ : (A3 Int)) (f3 : Fixup) (many5 : (A3 Int)) (x6 : Fixup) (r : Fixup) (h : hansomref25_Near_j33 f3 many5 x6 = some r) : Runs L F27b33 (hansomref25_Near_h33 f3 many5 x6) (hansomref25_Near_Q f_ n_ many_ r) := by
 unfold hansomref25_Near_j33 at h
 refine Sq <| Ro <| Rc 5 [vp [3] 0 6, vi f3.N, vi (bitsOp .and .i64 f3.N 255), vp [6] 0 5, vi x6.Target] ?_
 obtain ⟨z_3, hz_3, h⟩ := bind_s h
 refine Rt (some 72) (.iaddrA 3 1) [] none [.ptr [5] 0 0, .i x6.Target] (.ptr [5] 0 (0 + (x6.Target).toNat * 1)) [] (cut_iaA (l := many5.l) hz_3 rfl) <| Rt (some 73) (.load none) [] none [.ptr [5] 0 (0 + (x6.Target).toNat * 1)] (.i z_3) [] (cut_ldA (e := (D.int .i64)) (l := many5.l) (y := z_3) hz_3 (by kernel_rfl) (by kernel_rfl)) ?_
 obtain ⟨z_4, hz_4, h⟩ := bind_s h
 refine Rt (some 74) (.bin .rem) [] none [.i (bitsOp .and .i64 f3.N 255), .i z_3] (.i z_4) [] (cut_rem hz_4) <| Rc 3 [vi (IntKind.wrap .i64 (z_4 + 1)), vp [6] 0 6, ⟨.tup [], [([6], some (.cells [.i x6.At, .i x6.Loc, .b x6.Self, .i x6.Frame, .i x6.FrameN, .i x6.Target, .i (IntKind.wrap .i64 (z_4 + 1)), .w x6.Disp] 0))]⟩] <| Rk <| Sq <| Sq <| Ro <| Rc 3 [vp [6] 0 3, vi x6.Frame, vb (decide (x6.Frame < 3))] <| Rk ?_
 cases hb_5 : ((decide (x6.Frame < 3)) : Bool) with
 | true =>
  replace h := ite_t hb_5 h
  refine Ct <| Ro <| Rc 5 [vp [3] 0 4, vi f3.FrameN, vi (bitsOp .and .i64 f3.FrameN 255), vp [6] 0 3, vi x6.Frame] ?_
  obtain ⟨z_5, hz_5, h⟩ := bind_s h
  refine Rt (some 85) (.iaddrA 3 1) [] none [.ptr [5] 0 0, .i x6.Frame] (.ptr [5] 0 (0 + (x6.Frame).toNat * 1)) [] (cut_iaA (l := many5.l) hz_5 rfl) <| Rt (some 86) (.load none) [] none [.ptr [5] 0 (0 + (x6.Frame).toNat * 1)] (.i z_5) [] (cut_ldA (e := (D.int .i64)) (l := many5.l) (y := z_5) hz_5 (by kernel_rfl) (by kernel_rfl)) ?_
  obtain ⟨z_6, hz_6, h⟩ := bind_s h
  refine Rt (some 87) (.bin .rem) [] none [.i (bitsOp .and .i64 f3.FrameN 255), .i z_5] (.i z_6) [] (cut_rem hz_6) <| Rc 3 [vi (IntKind.wrap .i64 (z_6 + 1)), vp [6] 0 4, ⟨.tup [], [([6], some (.cells [.i x6.At, .i x6.Loc, .b x6.Self, .i x6.Frame, .i (IntKind.wrap .i64 (z_6 + 1)), .i x6.Target, .i (IntKind.wrap .i64 (z_4 + 1)), .w x6.Disp] 0))]⟩] <| Rk <| Sq <| Ro <| Rc 4 [vp [3] 0 7, vw f3.Disp, vp [6] 0 7, ⟨.tup [], [([6], some (.cells [.i x6.At, .i x6.Loc, .b x6.Self, .i x6.Frame, .i (IntKind.wrap .i64 (z_6 + 1)), .i x6.Target, .i (IntKind.wrap .i64 (z_4 + 1)), .w f3.Disp] 0))]⟩] <| Rk <| Sq <| Ro <| Rc 2 [⟨.d (.agg [.int .i64 x6.At, .int .i64 x6.Loc, .bool x6.Self, .int .i64 x6.Frame, .int .i64 (IntKind.wrap .i64 (z_6 + 1)), .int .i64 x6.Target, .int .i64 (IntKind.wrap .i64 (z_4 + 1)), .int .u16 f3.Disp]), []⟩, ⟨.tup [], [([6], some (.cells [.i x6.At, .i x6.Loc, .b x6.Self, .i x6.Frame, .i (IntKind.wrap .i64 (z_6 + 1)), .i x6.Target, .i (IntKind.wrap .i64 (z_4 + 1)), .w f3.Disp] 0))]⟩] <| Rk <| Runs.ret ?_
  cases h
  exact Fq
 | false =>
  replace h := ite_f hb_5 h
  refine Cf <| Runs.skip <| kS_nrm <| Sq <| Ro <| Rc 4 [vp [3] 0 7, vw f3.Disp, vp [6] 0 7, ⟨.tup [], [([6], some (.cells [.i x6.At, .i x6.Loc, .b x6.Self, .i x6.Frame, .i x6.FrameN, .i x6.Target, .i (IntKind.wrap .i64 (z_4 + 1)), .w f3.Disp] 0))]⟩] <| Rk <| Sq <| Ro <| Rc 2 [⟨.d (.agg [.int .i64 x6.At, .int .i64 x6.Loc, .bool x6.Self, .int .i64 x6.Frame, .int .i64 x6.FrameN, .int .i64 x6.Target, .int .i64 (IntKind.wrap .i64 (z_4 + 1)), .int .u16 f3.Disp]), []⟩, ⟨.tup [], [([6], some (.cells [.i x6.At, .i x6.Loc, .b x6.Self, .i x6.Frame, .i x6.FrameN, .i x6.Target, .i (IntKind.wrap .i64 (z_4 + 1)), .w f3.Disp] 0))]⟩] <| Rk <| Runs.ret ?_
  cases h
  exact Fq
theorem hansomref25_Near_j27_ok (f_ : Fixup) (n_ : Int) (many_ : (A3 Int)) (f3 : Fixup) (many5 : (A3 Int)) (x6 : Fixup) (r : Fixup) (h : hansomref25_Near_j27 f3 many5 x6 = some r) : Runs L F27b27 (hansomref25_Near_h27 f3 many5 x6) (hansomref25_Near_Q f_ n_ many_ r) := by
 unfold hansomref25_Near_j27 at h
 refine Sq <| Sq <| Ro <| Rc 4 [vp [6] 0 3, vi x6.Frame, vb (decide (x6.Frame < 3)), vb (decide (x6.Frame < 3))] ?_
 cases hb_3 : ((decide (x6.Frame < 3)) : Bool) with
 | true =>
  replace h := ite_t hb_3 h
  refine Rc 2 [vp [6] 0 3, vi x6.Frame] ?_
  obtain ⟨z_2, hz_2, h⟩ := bind_s h
  refine Rt (some 62) (.iaddrA 3 1) [] none [.ptr [5] 0 0, .i x6.Frame] (.ptr [5] 0 (0 + (x6.Frame).toNat * 1)) [] (cut_iaA (l := many5.l) hz_2 rfl) <| Rt (some 63) (.load none) [] none [.ptr [5] 0 (0 + (x6.Frame).toNat * 1)] (.i z_2) [] (cut_ldA (e := (D.int .i64)) (l := many5.l) (y := z_2) hz_2 (by kernel_rfl) (by kernel_rfl)) <| Rc 2 [vb (z_2 == 0), vb (z_2 == 0)] <| Rk ?_
  cases hb_4 : ((z_2 == 0) : Bool) with
  | true =>
   replace h := ite_t hb_4 h
   refine Ct <| Ro <| Rc 2 [vp [6] 0 3, ⟨.tup [], [([6], some (.cells [.i x6.At, .i x6.Loc, .b x6.Self, .i 5, .i x6.FrameN, .i x6.Target, .i x6.N, .w x6.Disp] 0))]⟩] <| Rk <| Runs.canon (hansomref25_Near_h33 f3 many5 ({ x6 with Frame := 5 } : Fixup)) Cz ?_
   exact hansomref25_Near_j33_ok f_ n_ many_ f3 many5 ({ x6 with Frame := 5 } : Fixup) r h
  | false =>
   replace h := ite_f hb_4 h
   refine Cf <| Runs.skip <| kS_nrm <| Runs.canon (hansomref25_Near_h33 f3 many5 x6) Cz ?_
   exact hansomref25_Near_j33_ok f_ n_ many_ f3 many5 x6 r h
 | false =>
  replace h := ite_f hb_3 h
  refine Rc 6 [vn, vn, vn, vn, vn, vb false] <| Rk <| Cf <| Runs.skip <| kS_nrm <| Runs.canon (hansomref25_Near_h33 f3 many5 x6) Cz ?_
  exact hansomref25_Near_j33_ok f_ n_ many_ f3 many5 x6 r h
theorem hansomref25_Near_j6_ok (f_ : Fixup) (n_ : Int) (many_ : (A3 Int)) (f3 : Fixup) (many5 : (A3 Int)) (x6 : Fixup) (n1 : Int) (r : Fixup) (h : hansomref25_Near_j6 f3 many5 x6 n1 = some r) : Runs L F27b6 (hansomref25_Near_h6 f3 many5 x6 n1) (hansomref25_Near_Q f_ n_ many_ r) := by
 unfold hansomref25_Near_j6 at h
 refine Sq <| Ro <| Rc 6 [vp [3] 0 0, vi f3.At, vi (bitsOp .and .i64 f3.At 65535), vi n1, vp [6] 0 1, vi x6.Loc] ?_
 obtain ⟨r_1, hr_1, h⟩ := bind_s h
 have hc_1 := hansomref25_Size_L x6.Loc r_1 hr_1
 refine Rt (some 26) (.callf 30) [] (some []) [.i x6.Loc] (.i r_1) [] (cc hc_1) <| Rc 3 [vi (IntKind.wrap .i64 (n1 - r_1)), vi (IntKind.wrap .i64 ((IntKind.wrap .i64 (n1 - r_1)) + 1)), vi (mnI (IntKind.wrap .i64 ((IntKind.wrap .i64 (n1 - r_1)) + 1)) 1024)] ?_
 obtain ⟨z_1, hz_1, h⟩ := bind_s h
 refine Rt (some 30) (.bin .rem) [] none [.i (bitsOp .and .i64 f3.At 65535), .i (mnI (IntKind.wrap .i64 ((IntKind.wrap .i64 (n1 - r_1)) + 1)) 1024)] (.i z_1) [] (cut_rem hz_1) <| Rc 2 [vp [6] 0 0, ⟨.tup [], [([6], some (.cells [.i z_1, .i x6.Loc, .b x6.Self, .i x6.Frame, .i x6.FrameN, .i x6.Target, .i x6.N, .w x6.Disp] 0))]⟩] <| Rk <| Sq <| Ro <| Rc 12 [vp [3] 0 5, vi f3.Target, vi (bitsOp .and .i64 f3.Target 255), vi (Int.tmod (bitsOp .and .i64 f3.Target 255) 3), vp [3] 0 3, vi f3.Frame, vi (bitsOp .and .i64 f3.Frame 255), vi (Int.tmod (bitsOp .and .i64 f3.Frame 255) 5), vp [6] 0 5, ⟨.tup [], [([6], some (.cells [.i z_1, .i x6.Loc, .b x6.Self, .i x6.Frame, .i x6.FrameN, .i (Int.tmod (bitsOp .and .i64 f3.Target 255) 3), .i x6.N, .w x6.Disp] 0))]⟩, vp [6] 0 3, ⟨.tup [], [([6], some (.cells [.i z_1, .i x6.Loc, .b x6.Self, .i (Int.tmod (bitsOp .and .i64 f3.Frame 255) 5), .i x6.FrameN, .i (Int.tmod (bitsOp .and .i64 f3.Target 255) 3), .i x6.N, .w x6.Disp] 0))]⟩] <| Rk <| Sq <| Runs.block ?_
 obtain ⟨e_1, he_1, h⟩ := bind_s h
 refine Runs.loop (fun x : Fixup => hansomref25_Near_l12 f3 many5 x) (fun (x : Fixup) (g : Unit) => hansomref25_Near_h12 f3 many5 x) (hansomref25_Near_P12 f_ n_ many_ f3 many5) (fun x g r hr => hansomref25_Near_l12_ok f_ n_ many_ f3 many5 x  r hr) () he_1 Cz ?_
 rintro ⟨o, s⟩ hp
 obtain ⟨ho, g_1, hk_1⟩ := hp
 have ho' : o = .exit 0 := ho
 subst ho'
 refine kB_hit <| kS_nrm <| Runs.canon _ hk_1 <| Sq <| Sq <| Ro <| Rc 3 [vp [6] 0 3, vi e_1.Frame, vb (e_1.Frame == 3)] <| Rk ?_
 cases hb_2 : ((e_1.Frame == 3) : Bool) with
 | true =>
  replace h := ite_t hb_2 h
  refine Ct <| Ro <| Rc 2 [vp [6] 0 3, ⟨.tup [], [([6], some (.cells [.i e_1.At, .i e_1.Loc, .b e_1.Self, .i 5, .i e_1.FrameN, .i e_1.Target, .i e_1.N, .w e_1.Disp] 0))]⟩] <| Rk <| Runs.canon (hansomref25_Near_h27 f3 many5 ({ e_1 with Frame := 5 } : Fixup)) Cz ?_
  exact hansomref25_Near_j27_ok f_ n_ many_ f3 many5 ({ e_1 with Frame := 5 } : Fixup) r h
 | false =>
  replace h := ite_f hb_2 h
  refine Cf <| Runs.skip <| kS_nrm <| Runs.canon (hansomref25_Near_h27 f3 many5 e_1) Cz ?_
  exact hansomref25_Near_j27_ok f_ n_ many_ f3 many5 e_1 r h
theorem hansomref25_Near_ok (f_ : Fixup) (n_ : Int) (many_ : (A3 Int)) (r : Fixup) (h : hansomref25_Near f_ n_ many_ = some r) : Runs L F27.body ⟨tmOf [.d (Fixup.d f_), .i n_, .d (.agg [.int .i64 many_.a0, .int .i64 many_.a1, .int .i64 many_.a2])] 0, updW (fun _ => none) []⟩ (hansomref25_Near_Q f_ n_ many_ r) := by
 unfold hansomref25_Near at h
 refine Sq <| Ro <| Rc 3 [⟨.ptr [3] 0 0, [([3], some (.cells [.i f_.At, .i f_.Loc, .b f_.Self, .i f_.Frame, .i f_.FrameN, .i f_.Target, .i f_.N, .w f_.Disp] 0))]⟩, ⟨.ptr [5] 0 0, [([5], some (.cells [.i many_.a0, .i many_.a1, .i many_.a2] 0))]⟩, ⟨.ptr [6] 0 0, [([6], some (.cells [.i 0, .i 0, .b false, .i 0, .i 0, .i 0, .i 0, .w 0] 0))]⟩] <| Rk <| Sq <| Ro <| Rc 6 [vp [3] 0 1, vi f_.Loc, vi (bitsOp .and .i64 f_.Loc 255), vi (Int.tmod (bitsOp .and .i64 f_.Loc 255) 5), vp [6] 0 1, ⟨.tup [], [([6], some (.cells [.i 0, .i (Int.tmod (bitsOp .and .i64 f_.Loc 255) 5), .b false, .i 0, .i 0, .i 0, .i 0, .w 0] 0))]⟩] <| Rk <| Sq <| Ro <| Rc 3 [vp [3] 0 2, vb f_.Self, vb f_.Self] ?_
 cases hb_1 : (f_.Self : Bool) with
 | true =>
  replace h := ite_t hb_1 h
  refine Rc 6 [vp [6] 0 1, vi (Int.tmod (bitsOp .and .i64 f_.Loc 255) 5), vb (decide ((Int.tmod (bitsOp .and .i64 f_.Loc 255) 5) < 2)), vb (decide ((Int.tmod (bitsOp .and .i64 f_.Loc 255) 5) < 2)), vp [6] 0 2, ⟨.tup [], [([6], some (.cells [.i 0, .i (Int.tmod (bitsOp .and .i64 f_.Loc 255) 5), .b (decide ((Int.tmod (bitsOp .and .i64 f_.Loc 255) 5) < 2)), .i 0, .i 0, .i 0, .i 0, .w 0] 0))]⟩] <| Rk <| Runs.canon (hansomref25_Near_h6 ({ f_ with Self := true } : Fixup) many_ ({ At := 0, Loc := (Int.tmod (bitsOp .and .i64 f_.Loc 255) 5), Self := (decide ((Int.tmod (bitsOp .and .i64 f_.Loc 255) 5) < 2)), Frame := 0, FrameN := 0, Target := 0, N := 0, Disp := 0 } : Fixup) n_) Cz ?_
  exact hansomref25_Near_j6_ok f_ n_ many_ ({ f_ with Self := true } : Fixup) many_ ({ At := 0, Loc := (Int.tmod (bitsOp .and .i64 f_.Loc 255) 5), Self := (decide ((Int.tmod (bitsOp .and .i64 f_.Loc 255) 5) < 2)), Frame := 0, FrameN := 0, Target := 0, N := 0, Disp := 0 } : Fixup) n_ r h
 | false =>
  replace h := ite_f hb_1 h
  refine Rc 6 [vn, vn, vn, vb false, vp [6] 0 2, ⟨.tup [], [([6], some (.cells [.i 0, .i (Int.tmod (bitsOp .and .i64 f_.Loc 255) 5), .b false, .i 0, .i 0, .i 0, .i 0, .w 0] 0))]⟩] <| Rk <| Runs.canon (hansomref25_Near_h6 ({ f_ with Self := false } : Fixup) many_ ({ At := 0, Loc := (Int.tmod (bitsOp .and .i64 f_.Loc 255) 5), Self := false, Frame := 0, FrameN := 0, Target := 0, N := 0, Disp := 0 } : Fixup) n_) Cz ?_
  exact hansomref25_Near_j6_ok f_ n_ many_ ({ f_ with Self := false } : Fixup) many_ ({ At := 0, Loc := (Int.tmod (bitsOp .and .i64 f_.Loc 255) 5), Self := false, Frame := 0, FrameN := 0, Target := 0, N := 0, Disp := 0 } : Fixup) n_ r h
theorem hansomref25_Near_L (f_ : Fixup) (n_ : Int) (many_ : (A3 Int)) (r : Fixup) (h : hansomref25_Near f_ n_ many_ = some r) : L 27 [.d (Fixup.d f_), .i n_, .d (.agg [.int .i64 many_.a0, .int .i64 many_.a1, .int .i64 many_.a2])] = some (.d (Fixup.d r), [.d (Fixup.d f_), .i n_, .d (.agg [.int .i64 many_.a0, .int .i64 many_.a1, .int .i64 many_.a2])]) := by
 obtain ⟨p, ⟨hne, hf⟩, hr⟩ := hansomref25_Near_ok f_ n_ many_ r h
 obtain ⟨k, hk⟩ := run_of (F := F27) (args := [.d (Fixup.d f_), .i n_, .d (.agg [.int .i64 many_.a0, .int .i64 many_.a1, .int .i64 many_.a2])]) (ap := [.d (Fixup.d f_), .i n_, .d (.agg [.int .i64 many_.a0, .int .i64 many_.a1, .int .i64 many_.a2])]) (bx0 := updW (fun _ => none) []) rfl rfl (by kernel_rfl) ⟨p, ⟨hne, hf⟩, hr⟩
 exact lim_run (k := k) rfl hk
def fixup_Size_Q (loc_ : Int) (r : Int) (p : Out × St) : Prop := (∀ i, p.1 ≠ .exit i) ∧ finF F58 [.i loc_] p.2 = some (.i r, [.i loc_])
theorem fixup_Size_ok (loc_ : Int) (r : Int) (h : fixup_Size loc_ = some r) : Runs L F58.body ⟨tmOf [.i loc_] 0, updW (fun _ => none) []⟩ (fixup_Size_Q loc_ r) := by
 unfold fixup_Size at h
 refine Sq <| Ro <| Rc 1 [vi 0] <| Rk <| Sq <| Sq <| Ro <| Rc 1 [vi loc_] <| Rk <| Runs.block <| Sq <| Sq <| Ro <| Rc 2 [vb (loc_ == 0), vb (loc_ == 0)] <| Rk ?_
 cases hb_1 : ((loc_ == 0) : Bool) with
 | true =>
  replace h := ite_t hb_1 h
  refine Ct <| Runs.skip <| kS_nrm <| Ct <| Sq <| Ro <| Rc 1 [vi 1] <| Rk <| Runs.ret <| kB_ret <| kS_ret ?_
  cases h
  exact Fq
 | false =>
  replace h := ite_f hb_1 h
  refine Cf <| Ro <| Rc 2 [vb (loc_ == 4), vb (loc_ == 4)] <| Rk ?_
  cases hb_2 : ((loc_ == 4) : Bool) with
  | true =>
   replace h := ite_t hb_2 h
   refine Ct <| Sq <| Ro <| Rc 1 [vi 1] <| Rk <| Runs.ret <| kB_ret <| kS_ret ?_
   cases h
   exact Fq
  | false =>
   replace h := ite_f hb_2 h
   refine Cf <| Sq <| Ro <| Rc 2 [vb (loc_ == 3), vb (loc_ == 3)] <| Rk ?_
   cases hb_3 : ((loc_ == 3) : Bool) with
   | true =>
    replace h := ite_t hb_3 h
    refine Ct <| Sq <| Ro <| Rc 1 [vi 4] <| Rk <| Runs.ret <| kB_ret <| kS_ret ?_
    cases h
    exact Fq
   | false =>
    replace h := ite_f hb_3 h
    refine Cf <| Runs.skip <| kB_nrm <| kS_nrm <| Sq <| Ro <| Rc 1 [vi 2] <| Rk <| Runs.ret ?_
    cases h
    exact Fq
theorem fixup_Size_L (loc_ : Int) (r : Int) (h : fixup_Size loc_ = some r) : L 58 [.i loc_] = some (.i r, [.i loc_]) := by
 obtain ⟨p, ⟨hne, hf⟩, hr⟩ := fixup_Size_ok loc_ r h
 obtain ⟨k, hk⟩ := run_of (F := F58) (args := [.i loc_]) (ap := [.i loc_]) (bx0 := updW (fun _ => none) []) rfl rfl (by kernel_rfl) ⟨p, ⟨hne, hf⟩, hr⟩
 exact lim_run (k := k) rfl hk
def apply_Value_Q (f_ : Fixup) (t_ : Spot) (frame_ : Spot) (at_ : Int) (fixed_ : Bool) (r : (Int × Int × Int)) (p : Out × St) : Prop := (∀ i, p.1 ≠ .exit i) ∧ finF F28 [.d (Fixup.d f_), .d (Spot.d t_), .d (Spot.d frame_), .i at_, .b fixed_] p.2 = some (.tup [.w r.1, .w r.2.1, .i r.2.2], [.d (Fixup.d f_), .d (Spot.d t_), .d (Spot.d frame_), .i at_, .b fixed_])
theorem apply_Value_ok (f_ : Fixup) (t_ : Spot) (frame_ : Spot) (at_ : Int) (fixed_ : Bool) (r : (Int × Int × Int)) (h : apply_Value f_ t_ frame_ at_ fixed_ = some r) : Runs L F28.body ⟨tmOf [.d (Fixup.d f_), .d (Spot.d t_), .d (Spot.d frame_), .i at_, .b fixed_] 0, updW (fun _ => none) []⟩ (apply_Value_Q f_ t_ frame_ at_ fixed_ r) := by
 unfold apply_Value at h
 refine Sq <| Ro <| Rc 6 [⟨.ptr [5] 0 0, [([5], some (.cells [.i f_.At, .i f_.Loc, .b f_.Self, .i f_.Frame, .i f_.FrameN, .i f_.Target, .i f_.N, .w f_.Disp] 0))]⟩, ⟨.ptr [6] 0 0, [([6], some (.cells [.i t_.At, .i t_.Para, .b t_.Fixed] 0))]⟩, ⟨.ptr [7] 0 0, [([7], some (.cells [.i frame_.At, .i frame_.Para, .b frame_.Fixed] 0))]⟩, vw 0, vw 0, vi 0] <| Rk <| Sq <| Ro <| Rc 7 [vp [6] 0 0, vi t_.At, vp [7] 0 1, vi frame_.Para, vi (shlI .i64 frame_.Para 4), vi (IntKind.wrap .i64 (t_.At - (shlI .i64 frame_.Para 4))), vi (IntKind.wrap .i64 (t_.At - (shlI .i64 frame_.Para 4)))] <| Rk <| Sq <| Sq <| Ro <| Rc 3 [vi (IntKind.wrap .i64 (t_.At - (shlI .i64 frame_.Para 4))), vb (decide ((IntKind.wrap .i64 (t_.At - (shlI .i64 frame_.Para 4))) < 0)), vb (decide ((IntKind.wrap .i64 (t_.At - (shlI .i64 frame_.Para 4))) < 0))] ?_
 cases hb_1 : ((decide ((IntKind.wrap .i64 (t_.At - (shlI .i64 frame_.Para 4))) < 0)) : Bool) with
 | true =>
  replace h := ite_t hb_1 h
  refine Rc 3 [vn, vn, vb true] <| Rk <| Ct <| Sq <| Ro <| Rc 3 [vw 0, vw 0, vi 9] <| Rk <| Runs.ret <| kS_ret ?_
  cases h
  exact Fq
 | false =>
  replace h := ite_f hb_1 h
  refine Rc 3 [vi (IntKind.wrap .i64 (t_.At - (shlI .i64 frame_.Para 4))), vb (decide ((IntKind.wrap .i64 (t_.At - (shlI .i64 frame_.Para 4))) ≥ 65536)), vb (decide ((IntKind.wrap .i64 (t_.At - (shlI .i64 frame_.Para 4))) ≥ 65536))] <| Rk ?_
  cases hb_2 : ((decide ((IntKind.wrap .i64 (t_.At - (shlI .i64 frame_.Para 4))) ≥ 65536)) : Bool) with
  | true =>
   replace h := ite_t hb_2 h
   refine Ct <| Sq <| Ro <| Rc 3 [vw 0, vw 0, vi 9] <| Rk <| Runs.ret <| kS_ret ?_
   cases h
   exact Fq
  | false =>
   replace h := ite_f hb_2 h
   refine Cf <| Runs.skip <| kS_nrm <| Sq <| Sq <| Ro <| Rc 3 [vp [5] 0 2, vb f_.Self, vb (!f_.Self)] <| Rk ?_
   cases hb_3 : ((!f_.Self) : Bool) with
   | true =>
    replace h := ite_t hb_3 h
    refine Ct <| Sq <| Ro <| Rc 8 [vi (IntKind.wrap .i64 (t_.At - (shlI .i64 frame_.Para 4))), vw (IntKind.wrap .u16 (IntKind.wrap .i64 (t_.At - (shlI .i64 frame_.Para 4)))), vp [7] 0 1, vi frame_.Para, vw (IntKind.wrap .u16 frame_.Para), vw (IntKind.wrap .u16 (IntKind.wrap .i64 (t_.At - (shlI .i64 frame_.Para 4)))), vw (IntKind.wrap .u16 frame_.Para), vi 0] <| Rk <| Runs.ret <| kS_ret ?_
    cases h
    exact Fq
   | false =>
    replace h := ite_f hb_3 h
    refine Cf <| Runs.skip <| kS_nrm <| Sq <| Ro <| Rc 3 [vi at_, vp [5] 0 1, vi f_.Loc] ?_
    obtain ⟨r_1, hr_1, h⟩ := bind_s h
    have hc_1 := fixup_Size_L f_.Loc r_1 hr_1
    refine Rt (some 40) (.callf 58) [] none [.i f_.Loc] (.i r_1) [] (cc hc_1) <| Rc 2 [vi (IntKind.wrap .i64 (at_ + r_1)), vi (IntKind.wrap .i64 (at_ + r_1))] <| Rk <| Sq <| Ro <| Rc 6 [vi (IntKind.wrap .i64 (at_ + r_1)), vp [7] 0 1, vi frame_.Para, vi (shlI .i64 frame_.Para 4), vi (IntKind.wrap .i64 ((IntKind.wrap .i64 (at_ + r_1)) - (shlI .i64 frame_.Para 4))), vi (IntKind.wrap .i64 ((IntKind.wrap .i64 (at_ + r_1)) - (shlI .i64 frame_.Para 4)))] <| Rk <| Sq <| Sq <| Ro <| Rc 5 [vb fixed_, vp [6] 0 2, vb t_.Fixed, vb (fixed_ != t_.Fixed), vb (fixed_ != t_.Fixed)] ?_
    cases hb_4 : ((fixed_ != t_.Fixed) : Bool) with
    | true =>
     replace h := ite_t hb_4 h
     refine Rc 7 [vn, vn, vb true, vb true, vn, vn, vb true] <| Rk <| Ct <| Sq <| Ro <| Rc 3 [vw 0, vw 0, vi 9] <| Rk <| Runs.ret <| kS_ret ?_
     cases h
     exact Fq
    | false =>
     replace h := ite_f hb_4 h
     refine Rc 4 [vi (IntKind.wrap .i64 ((IntKind.wrap .i64 (at_ + r_1)) - (shlI .i64 frame_.Para 4))), vb (decide ((IntKind.wrap .i64 ((IntKind.wrap .i64 (at_ + r_1)) - (shlI .i64 frame_.Para 4))) < 0)), vb (decide ((IntKind.wrap .i64 ((IntKind.wrap .i64 (at_ + r_1)) - (shlI .i64 frame_.Para 4))) < 0)), vb (decide ((IntKind.wrap .i64 ((IntKind.wrap .i64 (at_ + r_1)) - (shlI .i64 frame_.Para 4))) < 0))] ?_
     cases hb_5 : ((decide ((IntKind.wrap .i64 ((IntKind.wrap .i64 (at_ + r_1)) - (shlI .i64 frame_.Para 4))) < 0)) : Bool) with
     | true =>
      replace h := ite_t hb_5 h
      refine Rc 3 [vn, vn, vb true] <| Rk <| Ct <| Sq <| Ro <| Rc 3 [vw 0, vw 0, vi 9] <| Rk <| Runs.ret <| kS_ret ?_
      cases h
      exact Fq
     | false =>
      replace h := ite_f hb_5 h
      refine Rc 3 [vi (IntKind.wrap .i64 ((IntKind.wrap .i64 (at_ + r_1)) - (shlI .i64 frame_.Para 4))), vb (decide ((IntKind.wrap .i64 ((IntKind.wrap .i64 (at_ + r_1)) - (shlI .i64 frame_.Para 4))) > 65536)), vb (decide ((IntKind.wrap .i64 ((IntKind.wrap .i64 (at_ + r_1)) - (shlI .i64 frame_.Para 4))) > 65536))] <| Rk ?_
      cases hb_6 : ((decide ((IntKind.wrap .i64 ((IntKind.wrap .i64 (at_ + r_1)) - (shlI .i64 frame_.Para 4))) > 65536)) : Bool) with
      | true =>
       replace h := ite_t hb_6 h
       refine Ct <| Sq <| Ro <| Rc 3 [vw 0, vw 0, vi 9] <| Rk <| Runs.ret <| kS_ret ?_
       cases h
       exact Fq
      | false =>
       replace h := ite_f hb_6 h
       refine Cf <| Runs.skip <| kS_nrm <| Sq <| Ro <| Rc 5 [vp [6] 0 0, vi t_.At, vi (IntKind.wrap .i64 (at_ + r_1)), vi (IntKind.wrap .i64 (t_.At - (IntKind.wrap .i64 (at_ + r_1)))), vi (IntKind.wrap .i64 (t_.At - (IntKind.wrap .i64 (at_ + r_1))))] <| Rk <| Sq <| Sq <| Ro <| Rc 4 [vp [5] 0 1, vi f_.Loc, vb (f_.Loc == 0), vb (f_.Loc == 0)] ?_
       cases hb_7 : ((f_.Loc == 0) : Bool) with
       | true =>
        replace h := ite_t hb_7 h
        refine Rc 3 [vi (IntKind.wrap .i64 (t_.At - (IntKind.wrap .i64 (at_ + r_1)))), vb (decide ((IntKind.wrap .i64 (t_.At - (IntKind.wrap .i64 (at_ + r_1)))) < (-128))), vb (decide ((IntKind.wrap .i64 (t_.At - (IntKind.wrap .i64 (at_ + r_1)))) < (-128)))] ?_
        cases hb_8 : ((decide ((IntKind.wrap .i64 (t_.At - (IntKind.wrap .i64 (at_ + r_1)))) < (-128))) : Bool) with
        | true =>
         replace h := ite_t hb_8 h
         refine Rc 4 [vn, vn, vb true, vb true] <| Rk <| Ct <| Sq <| Ro <| Rc 3 [vw 0, vw 0, vi 9] <| Rk <| Runs.ret <| kS_ret ?_
         cases h
         exact Fq
        | false =>
         replace h := ite_f hb_8 h
         refine Rc 4 [vi (IntKind.wrap .i64 (t_.At - (IntKind.wrap .i64 (at_ + r_1)))), vb (decide ((IntKind.wrap .i64 (t_.At - (IntKind.wrap .i64 (at_ + r_1)))) > 127)), vb (decide ((IntKind.wrap .i64 (t_.At - (IntKind.wrap .i64 (at_ + r_1)))) > 127)), vb (decide ((IntKind.wrap .i64 (t_.At - (IntKind.wrap .i64 (at_ + r_1)))) > 127))] <| Rk ?_
         cases hb_9 : ((decide ((IntKind.wrap .i64 (t_.At - (IntKind.wrap .i64 (at_ + r_1)))) > 127)) : Bool) with
         | true =>
          replace h := ite_t hb_9 h
          refine Ct <| Sq <| Ro <| Rc 3 [vw 0, vw 0, vi 9] <| Rk <| Runs.ret <| kS_ret ?_
          cases h
          exact Fq
         | false =>
          replace h := ite_f hb_9 h
          refine Cf <| Runs.skip <| kS_nrm <| Sq <| Ro <| Rc 5 [vi (IntKind.wrap .i64 (t_.At - (IntKind.wrap .i64 (at_ + r_1)))), vw (IntKind.wrap .u16 (IntKind.wrap .i64 (t_.At - (IntKind.wrap .i64 (at_ + r_1))))), vw (IntKind.wrap .u16 (IntKind.wrap .i64 (t_.At - (IntKind.wrap .i64 (at_ + r_1))))), vw 0, vi 0] <| Rk <| Runs.ret ?_
          cases h
          exact Fq
       | false =>
        replace h := ite_f hb_7 h
        refine Rc 7 [vn, vn, vn, vn, vn, vn, vb false] <| Rk <| Cf <| Runs.skip <| kS_nrm <| Sq <| Ro <| Rc 5 [vi (IntKind.wrap .i64 (t_.At - (IntKind.wrap .i64 (at_ + r_1)))), vw (IntKind.wrap .u16 (IntKind.wrap .i64 (t_.At - (IntKind.wrap .i64 (at_ + r_1))))), vw (IntKind.wrap .u16 (IntKind.wrap .i64 (t_.At - (IntKind.wrap .i64 (at_ + r_1))))), vw 0, vi 0] <| Rk <| Runs.ret ?_
        cases h
        exact Fq
theorem apply_Value_L (f_ : Fixup) (t_ : Spot) (frame_ : Spot) (at_ : Int) (fixed_ : Bool) (r : (Int × Int × Int)) (h : apply_Value f_ t_ frame_ at_ fixed_ = some r) : L 28 [.d (Fixup.d f_), .d (Spot.d t_), .d (Spot.d frame_), .i at_, .b fixed_] = some (.tup [.w r.1, .w r.2.1, .i r.2.2], [.d (Fixup.d f_), .d (Spot.d t_), .d (Spot.d frame_), .i at_, .b fixed_]) := by
 obtain ⟨p, ⟨hne, hf⟩, hr⟩ := apply_Value_ok f_ t_ frame_ at_ fixed_ r h
 obtain ⟨k, hk⟩ := run_of (F := F28) (args := [.d (Fixup.d f_), .d (Spot.d t_), .d (Spot.d frame_), .i at_, .b fixed_]) (ap := [.d (Fixup.d f_), .d (Spot.d t_), .d (Spot.d frame_), .i at_, .b fixed_]) (bx0 := updW (fun _ => none) []) rfl rfl (by kernel_rfl) ⟨p, ⟨hne, hf⟩, hr⟩
 exact lim_run (k := k) rfl hk
def hansomlaw42_ApplyValues_h14 (n4 : (A4 Int)) (x7 : Fixup) (t8 : Spot) (frame9 : Spot) (fixed2 : Bool) : St := ⟨tab [(2, .b fixed2), (4, .ptr [4] 0 0), (7, .ptr [7] 0 0), (8, .ptr [8] 0 0), (9, .ptr [9] 0 0)], tabB [([4], some (.cells [.i n4.a0, .i n4.a1, .i n4.a2, .i n4.a3] 0)), ([7], some (.cells [.i x7.At, .i x7.Loc, .b x7.Self, .i x7.Frame, .i x7.FrameN, .i x7.Target, .i x7.N, .w x7.Disp] 0)), ([8], some (.cells [.i t8.At, .i t8.Para, .b t8.Fixed] 0)), ([9], some (.cells [.i frame9.At, .i frame9.Para, .b frame9.Fixed] 0))]⟩
def hansomlaw42_ApplyValues_h22 (x7 : Fixup) (t8 : Spot) (frame9 : Spot) (fixed2 : Bool) (at10 : Int) : St := ⟨tab [(2, .b fixed2), (7, .ptr [7] 0 0), (8, .ptr [8] 0 0), (9, .ptr [9] 0 0), (10, .i at10)], tabB [([7], some (.cells [.i x7.At, .i x7.Loc, .b x7.Self, .i x7.Frame, .i x7.FrameN, .i x7.Target, .i x7.N, .w x7.Disp] 0)), ([8], some (.cells [.i t8.At, .i t8.Para, .b t8.Fixed] 0)), ([9], some (.cells [.i frame9.At, .i frame9.Para, .b frame9.Fixed] 0))]⟩
def hansomlaw42_ApplyValues_h29 (x7 : Fixup) (t8 : Spot) (frame9 : Spot) (fixed2 : Bool) (at10 : Int) (off11 : Int) (para12 : Int) (e13 : Int) (o14 : Int) (t85 : Bool) : St := ⟨tab [(2, .b fixed2), (7, .ptr [7] 0 0), (8, .ptr [8] 0 0), (9, .ptr [9] 0 0), (10, .i at10), (11, .w off11), (12, .w para12), (13, .i e13), (14, .i o14), (85, .b t85)], tabB [([7], some (.cells [.i x7.At, .i x7.Loc, .b x7.Self, .i x7.Frame, .i x7.FrameN, .i x7.Target, .i x7.N, .w x7.Disp] 0)), ([8], some (.cells [.i t8.At, .i t8.Para, .b t8.Fixed] 0)), ([9], some (.cells [.i frame9.At, .i frame9.Para, .b frame9.Fixed] 0))]⟩
def hansomlaw42_ApplyValues_h48 (off11 : Int) (para12 : Int) (e13 : Int) (d16 : Int) (bad17 : Bool) : St := ⟨tab [(11, .w off11), (12, .w para12), (13, .i e13), (16, .i d16), (17, .b bad17)], tabB []⟩
def hansomlaw42_ApplyValues_Q (f_ : Fixup) (n_ : (A4 Int)) (fixed_ : Bool) (r : Bool) (p : Out × St) : Prop := (∀ i, p.1 ≠ .exit i) ∧ finF F6 [.d (Fixup.d f_), .d (.agg [.int .i64 n_.a0, .int .i64 n_.a1, .int .i64 n_.a2, .int .i64 n_.a3]), .b fixed_] p.2 = some (.b r, [.d (Fixup.d f_), .d (.agg [.int .i64 n_.a0, .int .i64 n_.a1, .int .i64 n_.a2, .int .i64 n_.a3]), .b fixed_])
theorem hansomlaw42_ApplyValues_j48_ok (f_ : Fixup) (n_ : (A4 Int)) (fixed_ : Bool) (off11 : Int) (para12 : Int) (e13 : Int) (d16 : Int) (bad17 : Bool) (r : Bool) (h : hansomlaw42_ApplyValues_j48 off11 para12 e13 d16 bad17 = some r) : Runs L F6b48 (hansomlaw42_ApplyValues_h48 off11 para12 e13 d16 bad17) (hansomlaw42_ApplyValues_Q f_ n_ fixed_ r) := by
 unfold hansomlaw42_ApplyValues_j48 at h
 refine Sq <| Sq <| Ro <| Rc 1 [vb bad17] <| Rk ?_
 cases hb_13 : (bad17 : Bool) with
 | true =>
  replace h := ite_t hb_13 h
  refine Ct <| Sq <| Ro ?_
  obtain ⟨r_6, hr_6, h⟩ := bind_s h
  have hc_6 := hansomlaw42_awake_L r_6 hr_6
  refine Rt (some 163) (.callf 29) [] none [] (.b r_6) [] (cc hc_6) <| Rc 1 [vb r_6] ?_
  cases hb_14 : (r_6 : Bool) with
  | true =>
   replace h := ite_t hb_14 h
   refine Rc 4 [vi e13, vb (e13 == 9), vb (e13 == 9), vb (e13 == 9)] <| Rk <| Runs.ret <| kS_ret ?_
   cases h
   exact Fq
  | false =>
   replace h := ite_f hb_14 h
   refine Rc 4 [vn, vn, vb false, vb false] <| Rk <| Runs.ret <| kS_ret ?_
   cases h
   exact Fq
 | false =>
  replace h := ite_f hb_13 h
  refine Cf <| Runs.skip <| kS_nrm <| Sq <| Ro ?_
  obtain ⟨r_7, hr_7, h⟩ := bind_s h
  have hc_7 := hansomlaw42_awake_L r_7 hr_7
  refine Rt (some 168) (.callf 29) [] none [] (.b r_7) [] (cc hc_7) <| Rc 1 [vb r_7] ?_
  cases hb_15 : (r_7 : Bool) with
  | true =>
   replace h := ite_t hb_15 h
   refine Rc 4 [vi e13, vb (e13 == 0), vb (e13 == 0), vb (e13 == 0)] ?_
   cases hb_16 : ((e13 == 0) : Bool) with
   | true =>
    replace h := ite_t hb_16 h
    refine Rc 6 [vw off11, vi d16, vw (IntKind.wrap .u16 d16), vb (off11 == (IntKind.wrap .u16 d16)), vb (off11 == (IntKind.wrap .u16 d16)), vb (off11 == (IntKind.wrap .u16 d16))] ?_
    cases hb_17 : ((off11 == (IntKind.wrap .u16 d16)) : Bool) with
    | true =>
     replace h := ite_t hb_17 h
     refine Rc 4 [vw para12, vb (para12 == 0), vb (para12 == 0), vb (para12 == 0)] <| Rk <| Runs.ret ?_
     cases h
     exact Fq
    | false =>
     replace h := ite_f hb_17 h
     refine Rc 4 [vn, vn, vb false, vb false] <| Rk <| Runs.ret ?_
     cases h
     exact Fq
   | false =>
    replace h := ite_f hb_16 h
    refine Rc 10 [vn, vn, vn, vn, vb false, vb false, vn, vn, vb false, vb false] <| Rk <| Runs.ret ?_
    cases h
    exact Fq
  | false =>
   replace h := ite_f hb_15 h
   refine Rc 14 [vn, vn, vb false, vb false, vn, vn, vn, vn, vb false, vb false, vn, vn, vb false, vb false] <| Rk <| Runs.ret ?_
   cases h
   exact Fq
theorem hansomlaw42_ApplyValues_j29_ok (f_ : Fixup) (n_ : (A4 Int)) (fixed_ : Bool) (x7 : Fixup) (t8 : Spot) (frame9 : Spot) (fixed2 : Bool) (at10 : Int) (off11 : Int) (para12 : Int) (e13 : Int) (o14 : Int) (t85 : Bool) (r : Bool) (h : hansomlaw42_ApplyValues_j29 x7 t8 frame9 fixed2 at10 off11 para12 e13 o14 t85 = some r) : Runs L F6b29 (hansomlaw42_ApplyValues_h29 x7 t8 frame9 fixed2 at10 off11 para12 e13 o14 t85) (kS L F6c34 (hansomlaw42_ApplyValues_Q f_ n_ fixed_ r)) := by
 unfold hansomlaw42_ApplyValues_j29 at h
 cases hb_4 : (t85 : Bool) with
 | true =>
  replace h := ite_t hb_4 h
  refine Ct <| Sq <| Ro ?_
  obtain ⟨r_3, hr_3, h⟩ := bind_s h
  have hc_3 := hansomlaw42_awake_L r_3 hr_3
  refine Rt (some 86) (.callf 29) [] none [] (.b r_3) [] (cc hc_3) <| Rc 1 [vb r_3] ?_
  cases hb_5 : (r_3 : Bool) with
  | true =>
   replace h := ite_t hb_5 h
   refine Rc 4 [vi e13, vb (e13 == 9), vb (e13 == 9), vb (e13 == 9)] ?_
   cases hb_6 : ((e13 == 9) : Bool) with
   | true =>
    replace h := ite_t hb_6 h
    refine Rc 4 [vw off11, vb (off11 == 0), vb (off11 == 0), vb (off11 == 0)] ?_
    cases hb_7 : ((off11 == 0) : Bool) with
    | true =>
     replace h := ite_t hb_7 h
     refine Rc 4 [vw para12, vb (para12 == 0), vb (para12 == 0), vb (para12 == 0)] <| Rk <| Runs.ret <| kS_ret ?_
     cases h
     exact Fq
    | false =>
     replace h := ite_f hb_7 h
     refine Rc 4 [vn, vn, vb false, vb false] <| Rk <| Runs.ret <| kS_ret ?_
     cases h
     exact Fq
   | false =>
    replace h := ite_f hb_6 h
    refine Rc 8 [vn, vn, vb false, vb false, vn, vn, vb false, vb false] <| Rk <| Runs.ret <| kS_ret ?_
    cases h
    exact Fq
  | false =>
   replace h := ite_f hb_5 h
   refine Rc 12 [vn, vn, vb false, vb false, vn, vn, vb false, vb false, vn, vn, vb false, vb false] <| Rk <| Runs.ret <| kS_ret ?_
   cases h
   exact Fq
 | false =>
  replace h := ite_f hb_4 h
  refine Cf <| Runs.skip <| kS_nrm <| Sq <| Sq <| Ro <| Rc 3 [vp [7] 0 2, vb x7.Self, vb (!x7.Self)] <| Rk ?_
  cases hb_8 : ((!x7.Self) : Bool) with
  | true =>
   replace h := ite_t hb_8 h
   refine Ct <| Sq <| Ro ?_
   obtain ⟨r_4, hr_4, h⟩ := bind_s h
   have hc_4 := hansomlaw42_awake_L r_4 hr_4
   refine Rt (some 102) (.callf 29) [] none [] (.b r_4) [] (cc hc_4) <| Rc 1 [vb r_4] ?_
   cases hb_9 : (r_4 : Bool) with
   | true =>
    replace h := ite_t hb_9 h
    refine Rc 4 [vi e13, vb (e13 == 0), vb (e13 == 0), vb (e13 == 0)] ?_
    cases hb_10 : ((e13 == 0) : Bool) with
    | true =>
     replace h := ite_t hb_10 h
     refine Rc 6 [vw off11, vi (IntKind.wrap .i64 off11), vi o14, vb ((IntKind.wrap .i64 off11) == o14), vb ((IntKind.wrap .i64 off11) == o14), vb ((IntKind.wrap .i64 off11) == o14)] ?_
     cases hb_11 : (((IntKind.wrap .i64 off11) == o14) : Bool) with
     | true =>
      replace h := ite_t hb_11 h
      refine Rc 8 [vw para12, vi (IntKind.wrap .i64 para12), vp [9] 0 1, vi frame9.Para, vi (Int.tmod frame9.Para 65536), vb ((IntKind.wrap .i64 para12) == (Int.tmod frame9.Para 65536)), vb ((IntKind.wrap .i64 para12) == (Int.tmod frame9.Para 65536)), vb ((IntKind.wrap .i64 para12) == (Int.tmod frame9.Para 65536))] <| Rk <| Runs.ret <| kS_ret ?_
      cases h
      exact Fq
     | false =>
      replace h := ite_f hb_11 h
      refine Rc 8 [vn, vn, vn, vn, vn, vn, vb false, vb false] <| Rk <| Runs.ret <| kS_ret ?_
      cases h
      exact Fq
    | false =>
     replace h := ite_f hb_10 h
     refine Rc 14 [vn, vn, vn, vn, vb false, vb false, vn, vn, vn, vn, vn, vn, vb false, vb false] <| Rk <| Runs.ret <| kS_ret ?_
     cases h
     exact Fq
   | false =>
    replace h := ite_f hb_9 h
    refine Rc 18 [vn, vn, vb false, vb false, vn, vn, vn, vn, vb false, vb false, vn, vn, vn, vn, vn, vn, vb false, vb false] <| Rk <| Runs.ret <| kS_ret ?_
    cases h
    exact Fq
  | false =>
   replace h := ite_f hb_8 h
   refine Cf <| Runs.skip <| kS_nrm <| Sq <| Ro <| Rc 3 [vi at10, vp [7] 0 1, vi x7.Loc] ?_
   obtain ⟨r_5, hr_5, h⟩ := bind_s h
   have hc_5 := hansomref25_Size_L x7.Loc r_5 hr_5
   refine Rt (some 124) (.callf 30) [] none [.i x7.Loc] (.i r_5) [] (cc hc_5) <| Rc 2 [vi (IntKind.wrap .i64 (at10 + r_5)), vi (IntKind.wrap .i64 (at10 + r_5))] <| Rk <| Sq <| Ro <| Rc 5 [vp [8] 0 0, vi t8.At, vi (IntKind.wrap .i64 (at10 + r_5)), vi (IntKind.wrap .i64 (t8.At - (IntKind.wrap .i64 (at10 + r_5)))), vi (IntKind.wrap .i64 (t8.At - (IntKind.wrap .i64 (at10 + r_5))))] <| Rk <| Sq <| Ro <| Rc 5 [vb fixed2, vp [8] 0 2, vb t8.Fixed, vb (fixed2 != t8.Fixed), vb (fixed2 != t8.Fixed)] ?_
   cases hb_12 : ((fixed2 != t8.Fixed) : Bool) with
   | true =>
    replace h := ite_t hb_12 h
    refine Rc 28 [vn, vn, vn, vn, vn, vb true, vb true, vn, vn, vn, vn, vn, vn, vb true, vb true, vn, vn, vn, vn, vn, vn, vn, vn, vn, vn, vn, vb true, vb true] <| Rk <| Runs.canon (hansomlaw42_ApplyValues_h48 off11 para12 e13 (IntKind.wrap .i64 (t8.At - (IntKind.wrap .i64 (at10 + r_5)))) true) Cz ?_
    exact hansomlaw42_ApplyValues_j48_ok f_ n_ fixed_ off11 para12 e13 (IntKind.wrap .i64 (t8.At - (IntKind.wrap .i64 (at10 + r_5)))) true r h
   | false =>
    replace h := ite_f hb_12 h
    refine Rc 7 [vi (IntKind.wrap .i64 (at10 + r_5)), vp [9] 0 1, vi frame9.Para, vi (IntKind.wrap .i64 (16 * frame9.Para)), vb (decide ((IntKind.wrap .i64 (at10 + r_5)) < (IntKind.wrap .i64 (16 * frame9.Para)))), vb (decide ((IntKind.wrap .i64 (at10 + r_5)) < (IntKind.wrap .i64 (16 * frame9.Para)))), vb (decide ((IntKind.wrap .i64 (at10 + r_5)) < (IntKind.wrap .i64 (16 * frame9.Para))))] ?_
    cases hb_18 : ((decide ((IntKind.wrap .i64 (at10 + r_5)) < (IntKind.wrap .i64 (16 * frame9.Para)))) : Bool) with
    | true =>
     replace h := ite_t hb_18 h
     refine Rc 21 [vn, vn, vn, vn, vn, vn, vb true, vb true, vn, vn, vn, vn, vn, vn, vn, vn, vn, vn, vn, vb true, vb true] <| Rk <| Runs.canon (hansomlaw42_ApplyValues_h48 off11 para12 e13 (IntKind.wrap .i64 (t8.At - (IntKind.wrap .i64 (at10 + r_5)))) true) Cz ?_
     exact hansomlaw42_ApplyValues_j48_ok f_ n_ fixed_ off11 para12 e13 (IntKind.wrap .i64 (t8.At - (IntKind.wrap .i64 (at10 + r_5)))) true r h
    | false =>
     replace h := ite_f hb_18 h
     refine Rc 8 [vi (IntKind.wrap .i64 (at10 + r_5)), vp [9] 0 1, vi frame9.Para, vi (IntKind.wrap .i64 (16 * frame9.Para)), vi (IntKind.wrap .i64 ((IntKind.wrap .i64 (at10 + r_5)) - (IntKind.wrap .i64 (16 * frame9.Para)))), vb (decide ((IntKind.wrap .i64 ((IntKind.wrap .i64 (at10 + r_5)) - (IntKind.wrap .i64 (16 * frame9.Para)))) > 65536)), vb (decide ((IntKind.wrap .i64 ((IntKind.wrap .i64 (at10 + r_5)) - (IntKind.wrap .i64 (16 * frame9.Para)))) > 65536)), vb (decide ((IntKind.wrap .i64 ((IntKind.wrap .i64 (at10 + r_5)) - (IntKind.wrap .i64 (16 * frame9.Para)))) > 65536))] ?_
     cases hb_19 : ((decide ((IntKind.wrap .i64 ((IntKind.wrap .i64 (at10 + r_5)) - (IntKind.wrap .i64 (16 * frame9.Para)))) > 65536)) : Bool) with
     | true =>
      replace h := ite_t hb_19 h
      refine Rc 13 [vn, vn, vn, vn, vn, vn, vn, vn, vn, vn, vn, vb true, vb true] <| Rk <| Runs.canon (hansomlaw42_ApplyValues_h48 off11 para12 e13 (IntKind.wrap .i64 (t8.At - (IntKind.wrap .i64 (at10 + r_5)))) true) Cz ?_
      exact hansomlaw42_ApplyValues_j48_ok f_ n_ fixed_ off11 para12 e13 (IntKind.wrap .i64 (t8.At - (IntKind.wrap .i64 (at10 + r_5)))) true r h
     | false =>
      replace h := ite_f hb_19 h
      refine Rc 4 [vp [7] 0 1, vi x7.Loc, vb (x7.Loc == 0), vb (x7.Loc == 0)] ?_
      cases hb_20 : ((x7.Loc == 0) : Bool) with
      | true =>
       replace h := ite_t hb_20 h
       refine Rc 3 [vi (IntKind.wrap .i64 (t8.At - (IntKind.wrap .i64 (at10 + r_5)))), vb (decide ((IntKind.wrap .i64 (t8.At - (IntKind.wrap .i64 (at10 + r_5)))) < (-128))), vb (decide ((IntKind.wrap .i64 (t8.At - (IntKind.wrap .i64 (at10 + r_5)))) < (-128)))] ?_
       cases hb_21 : ((decide ((IntKind.wrap .i64 (t8.At - (IntKind.wrap .i64 (at10 + r_5)))) < (-128))) : Bool) with
       | true =>
        replace h := ite_t hb_21 h
        refine Rc 6 [vn, vn, vb true, vb true, vb true, vb true] <| Rk <| Runs.canon (hansomlaw42_ApplyValues_h48 off11 para12 e13 (IntKind.wrap .i64 (t8.At - (IntKind.wrap .i64 (at10 + r_5)))) true) Cz ?_
        exact hansomlaw42_ApplyValues_j48_ok f_ n_ fixed_ off11 para12 e13 (IntKind.wrap .i64 (t8.At - (IntKind.wrap .i64 (at10 + r_5)))) true r h
       | false =>
        replace h := ite_f hb_21 h
        refine Rc 6 [vi (IntKind.wrap .i64 (t8.At - (IntKind.wrap .i64 (at10 + r_5)))), vb (decide ((IntKind.wrap .i64 (t8.At - (IntKind.wrap .i64 (at10 + r_5)))) > 127)), vb (decide ((IntKind.wrap .i64 (t8.At - (IntKind.wrap .i64 (at10 + r_5)))) > 127)), vb (decide ((IntKind.wrap .i64 (t8.At - (IntKind.wrap .i64 (at10 + r_5)))) > 127)), vb (decide ((IntKind.wrap .i64 (t8.At - (IntKind.wrap .i64 (at10 + r_5)))) > 127)), vb (decide ((IntKind.wrap .i64 (t8.At - (IntKind.wrap .i64 (at10 + r_5)))) > 127))] <| Rk <| Runs.canon (hansomlaw42_ApplyValues_h48 off11 para12 e13 (IntKind.wrap .i64 (t8.At - (IntKind.wrap .i64 (at10 + r_5)))) (decide ((IntKind.wrap .i64 (t8.At - (IntKind.wrap .i64 (at10 + r_5)))) > 127))) Cz ?_
        exact hansomlaw42_ApplyValues_j48_ok f_ n_ fixed_ off11 para12 e13 (IntKind.wrap .i64 (t8.At - (IntKind.wrap .i64 (at10 + r_5)))) (decide ((IntKind.wrap .i64 (t8.At - (IntKind.wrap .i64 (at10 + r_5)))) > 127)) r h
      | false =>
       replace h := ite_f hb_20 h
       refine Rc 9 [vn, vn, vn, vn, vn, vn, vb false, vb false, vb false] <| Rk <| Runs.canon (hansomlaw42_ApplyValues_h48 off11 para12 e13 (IntKind.wrap .i64 (t8.At - (IntKind.wrap .i64 (at10 + r_5)))) false) Cz ?_
       exact hansomlaw42_ApplyValues_j48_ok f_ n_ fixed_ off11 para12 e13 (IntKind.wrap .i64 (t8.At - (IntKind.wrap .i64 (at10 + r_5)))) false r h
theorem hansomlaw42_ApplyValues_j22_ok (f_ : Fixup) (n_ : (A4 Int)) (fixed_ : Bool) (x7 : Fixup) (t8 : Spot) (frame9 : Spot) (fixed2 : Bool) (at10 : Int) (r : Bool) (h : hansomlaw42_ApplyValues_j22 x7 t8 frame9 fixed2 at10 = some r) : Runs L F6b22 (hansomlaw42_ApplyValues_h22 x7 t8 frame9 fixed2 at10) (hansomlaw42_ApplyValues_Q f_ n_ fixed_ r) := by
 unfold hansomlaw42_ApplyValues_j22 at h
 refine Sq <| Ro <| Rc 5 [⟨.d (Fixup.d x7), []⟩, ⟨.d (Spot.d t8), []⟩, ⟨.d (Spot.d frame9), []⟩, vi at10, vb fixed2] ?_
 obtain ⟨r_2, hr_2, h⟩ := bind_s h
 have hc_2 := apply_Value_L x7 t8 frame9 at10 fixed2 r_2 hr_2
 refine Rt (some 70) (.callf 28) [] none [.d (Fixup.d x7), .d (Spot.d t8), .d (Spot.d frame9), .i at10, .b fixed2] (.tup [.w r_2.1, .w r_2.2.1, .i r_2.2.2]) [] (cc hc_2) <| Rc 7 [⟨.tup [.w r_2.1, .w r_2.2.1, .i r_2.2.2], []⟩, vw r_2.1, vw r_2.2.1, vi r_2.2.2, vw r_2.1, vw r_2.2.1, vi r_2.2.2] <| Rk <| Sq <| Ro <| Rc 7 [vp [8] 0 0, vi t8.At, vp [9] 0 1, vi frame9.Para, vi (IntKind.wrap .i64 (16 * frame9.Para)), vi (IntKind.wrap .i64 (t8.At - (IntKind.wrap .i64 (16 * frame9.Para)))), vi (IntKind.wrap .i64 (t8.At - (IntKind.wrap .i64 (16 * frame9.Para))))] <| Rk <| Sq <| Sq <| Ro <| Rc 3 [vi (IntKind.wrap .i64 (t8.At - (IntKind.wrap .i64 (16 * frame9.Para)))), vb (decide ((IntKind.wrap .i64 (t8.At - (IntKind.wrap .i64 (16 * frame9.Para)))) < 0)), vb (decide ((IntKind.wrap .i64 (t8.At - (IntKind.wrap .i64 (16 * frame9.Para)))) < 0))] ?_
 cases hb_3 : ((decide ((IntKind.wrap .i64 (t8.At - (IntKind.wrap .i64 (16 * frame9.Para)))) < 0)) : Bool) with
 | true =>
  replace h := ite_t hb_3 h
  refine Rc 3 [vn, vn, vb true] <| Rk <| Runs.canon (hansomlaw42_ApplyValues_h29 x7 t8 frame9 fixed2 at10 r_2.1 r_2.2.1 r_2.2.2 (IntKind.wrap .i64 (t8.At - (IntKind.wrap .i64 (16 * frame9.Para)))) true) Cz ?_
  exact hansomlaw42_ApplyValues_j29_ok f_ n_ fixed_ x7 t8 frame9 fixed2 at10 r_2.1 r_2.2.1 r_2.2.2 (IntKind.wrap .i64 (t8.At - (IntKind.wrap .i64 (16 * frame9.Para)))) true r h
 | false =>
  replace h := ite_f hb_3 h
  refine Rc 3 [vi (IntKind.wrap .i64 (t8.At - (IntKind.wrap .i64 (16 * frame9.Para)))), vb (decide ((IntKind.wrap .i64 (t8.At - (IntKind.wrap .i64 (16 * frame9.Para)))) > 65535)), vb (decide ((IntKind.wrap .i64 (t8.At - (IntKind.wrap .i64 (16 * frame9.Para)))) > 65535))] <| Rk <| Runs.canon (hansomlaw42_ApplyValues_h29 x7 t8 frame9 fixed2 at10 r_2.1 r_2.2.1 r_2.2.2 (IntKind.wrap .i64 (t8.At - (IntKind.wrap .i64 (16 * frame9.Para)))) (decide ((IntKind.wrap .i64 (t8.At - (IntKind.wrap .i64 (16 * frame9.Para)))) > 65535))) Cz ?_
  exact hansomlaw42_ApplyValues_j29_ok f_ n_ fixed_ x7 t8 frame9 fixed2 at10 r_2.1 r_2.2.1 r_2.2.2 (IntKind.wrap .i64 (t8.At - (IntKind.wrap .i64 (16 * frame9.Para)))) (decide ((IntKind.wrap .i64 (t8.At - (IntKind.wrap .i64 (16 * frame9.Para)))) > 65535)) r h
theorem hansomlaw42_ApplyValues_j14_ok (f_ : Fixup) (n_ : (A4 Int)) (fixed_ : Bool) (n4 : (A4 Int)) (x7 : Fixup) (t8 : Spot) (frame9 : Spot) (fixed2 : Bool) (r : Bool) (h : hansomlaw42_ApplyValues_j14 n4 x7 t8 frame9 fixed2 = some r) : Runs L F6b14 (hansomlaw42_ApplyValues_h14 n4 x7 t8 frame9 fixed2) (hansomlaw42_ApplyValues_Q f_ n_ fixed_ r) := by
 unfold hansomlaw42_ApplyValues_j14 at h
 refine Sq <| Ro <| Rc 4 [vp [4] 0 2, vi n4.a2, vi (bitsOp .and .i64 n4.a2 1048575), vi (bitsOp .and .i64 n4.a2 1048575)] <| Rk <| Sq <| Sq <| Ro <| Rc 4 [vp [4] 0 3, vi n4.a3, vi (bitsOp .and .i64 n4.a3 4), vb (decide ((bitsOp .and .i64 n4.a3 4) > 0))] <| Rk ?_
 cases hb_2 : ((decide ((bitsOp .and .i64 n4.a3 4) > 0)) : Bool) with
 | true =>
  replace h := ite_t hb_2 h
  refine Ct <| Ro <| Rc 9 [vp [8] 0 0, vi t8.At, vp [4] 0 2, vi n4.a2, vi (bitsOp .and .i64 n4.a2 511), vi (IntKind.wrap .i64 (t8.At - (bitsOp .and .i64 n4.a2 511))), vi (IntKind.wrap .i64 ((IntKind.wrap .i64 (t8.At - (bitsOp .and .i64 n4.a2 511))) + 256)), vi (mxI (IntKind.wrap .i64 ((IntKind.wrap .i64 (t8.At - (bitsOp .and .i64 n4.a2 511))) + 256)) 0), vi (mxI (IntKind.wrap .i64 ((IntKind.wrap .i64 (t8.At - (bitsOp .and .i64 n4.a2 511))) + 256)) 0)] <| Rk <| Runs.canon (hansomlaw42_ApplyValues_h22 x7 t8 frame9 fixed2 (mxI (IntKind.wrap .i64 ((IntKind.wrap .i64 (t8.At - (bitsOp .and .i64 n4.a2 511))) + 256)) 0)) Cz ?_
  exact hansomlaw42_ApplyValues_j22_ok f_ n_ fixed_ x7 t8 frame9 fixed2 (mxI (IntKind.wrap .i64 ((IntKind.wrap .i64 (t8.At - (bitsOp .and .i64 n4.a2 511))) + 256)) 0) r h
 | false =>
  replace h := ite_f hb_2 h
  refine Cf <| Runs.skip <| kS_nrm <| Runs.canon (hansomlaw42_ApplyValues_h22 x7 t8 frame9 fixed2 (bitsOp .and .i64 n4.a2 1048575)) Cz ?_
  exact hansomlaw42_ApplyValues_j22_ok f_ n_ fixed_ x7 t8 frame9 fixed2 (bitsOp .and .i64 n4.a2 1048575) r h
theorem hansomlaw42_ApplyValues_ok (f_ : Fixup) (n_ : (A4 Int)) (fixed_ : Bool) (r : Bool) (h : hansomlaw42_ApplyValues f_ n_ fixed_ = some r) : Runs L F6.body ⟨tmOf [.d (Fixup.d f_), .d (.agg [.int .i64 n_.a0, .int .i64 n_.a1, .int .i64 n_.a2, .int .i64 n_.a3]), .b fixed_] 0, updW (fun _ => none) []⟩ (hansomlaw42_ApplyValues_Q f_ n_ fixed_ r) := by
 unfold hansomlaw42_ApplyValues at h
 refine Sq <| Ro <| Rc 3 [⟨.ptr [3] 0 0, [([3], some (.cells [.i f_.At, .i f_.Loc, .b f_.Self, .i f_.Frame, .i f_.FrameN, .i f_.Target, .i f_.N, .w f_.Disp] 0))]⟩, ⟨.ptr [4] 0 0, [([4], some (.cells [.i n_.a0, .i n_.a1, .i n_.a2, .i n_.a3] 0))]⟩, vb false] <| Rk <| Sq <| Ro <| Rc 2 [⟨.d (Fixup.d f_), []⟩, ⟨.d (.agg [.int .i64 5, .int .i64 5, .int .i64 5]), []⟩] ?_
 obtain ⟨r_1, hr_1, h⟩ := bind_s h
 have hc_1 := hansomref25_Near_L f_ 100 ({ a0 := 5, a1 := 5, a2 := 5 } : (A3 Int)) r_1 hr_1
 refine Rt (some 20) (.callf 27) [] none [.d (Fixup.d f_), .i 100, .d (.agg [.int .i64 5, .int .i64 5, .int .i64 5])] (.d (Fixup.d r_1)) [] (cc hc_1) <| Rc 2 [⟨.ptr [7] 0 0, [([7], some (.cells [.i 0, .i 0, .b false, .i 0, .i 0, .i 0, .i 0, .w 0] 0))]⟩, ⟨.tup [], [([7], some (.cells [.i r_1.At, .i r_1.Loc, .b r_1.Self, .i r_1.Frame, .i r_1.FrameN, .i r_1.Target, .i r_1.N, .w r_1.Disp] 0))]⟩] <| Rk <| Sq <| Ro <| Rc 14 [vp [4] 0 0, vi n_.a0, vi (bitsOp .and .i64 n_.a0 1048575), vp [4] 0 0, vi n_.a0, vi (bitsOp .and .i64 n_.a0 1048575), vi (shrI .i64 (bitsOp .and .i64 n_.a0 1048575) 4), vp [4] 0 3, vi n_.a3, vi (bitsOp .and .i64 n_.a3 1), vb (decide ((bitsOp .and .i64 n_.a3 1) > 0)), ⟨.d (.agg [.int .i64 (bitsOp .and .i64 n_.a0 1048575), .int .i64 (shrI .i64 (bitsOp .and .i64 n_.a0 1048575) 4), .bool (decide ((bitsOp .and .i64 n_.a3 1) > 0))]), []⟩, ⟨.ptr [8] 0 0, [([8], some (.cells [.i 0, .i 0, .b false] 0))]⟩, ⟨.tup [], [([8], some (.cells [.i (bitsOp .and .i64 n_.a0 1048575), .i (shrI .i64 (bitsOp .and .i64 n_.a0 1048575) 4), .b (decide ((bitsOp .and .i64 n_.a3 1) > 0))] 0))]⟩] ?_
 refine Rk <| Sq <| Ro <| Rc 10 [vp [8] 0 1, vi (shrI .i64 (bitsOp .and .i64 n_.a0 1048575) 4), vp [4] 0 1, vi n_.a1, vi (bitsOp .and .i64 n_.a1 8191), vi (IntKind.wrap .i64 ((shrI .i64 (bitsOp .and .i64 n_.a0 1048575) 4) - (bitsOp .and .i64 n_.a1 8191))), vi (mxI (IntKind.wrap .i64 ((shrI .i64 (bitsOp .and .i64 n_.a0 1048575) 4) - (bitsOp .and .i64 n_.a1 8191))) 0), ⟨.d (.agg [.int .i64 0, .int .i64 (mxI (IntKind.wrap .i64 ((shrI .i64 (bitsOp .and .i64 n_.a0 1048575) 4) - (bitsOp .and .i64 n_.a1 8191))) 0), .bool false]), []⟩, ⟨.ptr [9] 0 0, [([9], some (.cells [.i 0, .i 0, .b false] 0))]⟩, ⟨.tup [], [([9], some (.cells [.i 0, .i (mxI (IntKind.wrap .i64 ((shrI .i64 (bitsOp .and .i64 n_.a0 1048575) 4) - (bitsOp .and .i64 n_.a1 8191))) 0), .b false] 0))]⟩] <| Rk <| Sq <| Sq <| Ro <| Rc 4 [vp [4] 0 3, vi n_.a3, vi (bitsOp .and .i64 n_.a3 2), vb (decide ((bitsOp .and .i64 n_.a3 2) > 0))] <| Rk ?_
 cases hb_1 : ((decide ((bitsOp .and .i64 n_.a3 2) > 0)) : Bool) with
 | true =>
  replace h := ite_t hb_1 h
  refine Ct <| Ro <| Rc 5 [vp [4] 0 1, vi n_.a1, vi (bitsOp .and .i64 n_.a1 65535), vp [9] 0 1, ⟨.tup [], [([9], some (.cells [.i 0, .i (bitsOp .and .i64 n_.a1 65535), .b false] 0))]⟩] <| Rk <| Runs.canon (hansomlaw42_ApplyValues_h14 n_ r_1 ({ At := (bitsOp .and .i64 n_.a0 1048575), Para := (shrI .i64 (bitsOp .and .i64 n_.a0 1048575) 4), Fixed := (decide ((bitsOp .and .i64 n_.a3 1) > 0)) } : Spot) ({ At := 0, Para := (bitsOp .and .i64 n_.a1 65535), Fixed := false } : Spot) fixed_) Cz ?_
  exact hansomlaw42_ApplyValues_j14_ok f_ n_ fixed_ n_ r_1 ({ At := (bitsOp .and .i64 n_.a0 1048575), Para := (shrI .i64 (bitsOp .and .i64 n_.a0 1048575) 4), Fixed := (decide ((bitsOp .and .i64 n_.a3 1) > 0)) } : Spot) ({ At := 0, Para := (bitsOp .and .i64 n_.a1 65535), Fixed := false } : Spot) fixed_ r h
 | false =>
  replace h := ite_f hb_1 h
  refine Cf <| Runs.skip <| kS_nrm <| Runs.canon (hansomlaw42_ApplyValues_h14 n_ r_1 ({ At := (bitsOp .and .i64 n_.a0 1048575), Para := (shrI .i64 (bitsOp .and .i64 n_.a0 1048575) 4), Fixed := (decide ((bitsOp .and .i64 n_.a3 1) > 0)) } : Spot) ({ At := 0, Para := (mxI (IntKind.wrap .i64 ((shrI .i64 (bitsOp .and .i64 n_.a0 1048575) 4) - (bitsOp .and .i64 n_.a1 8191))) 0), Fixed := false } : Spot) fixed_) Cz ?_
  exact hansomlaw42_ApplyValues_j14_ok f_ n_ fixed_ n_ r_1 ({ At := (bitsOp .and .i64 n_.a0 1048575), Para := (shrI .i64 (bitsOp .and .i64 n_.a0 1048575) 4), Fixed := (decide ((bitsOp .and .i64 n_.a3 1) > 0)) } : Spot) ({ At := 0, Para := (mxI (IntKind.wrap .i64 ((shrI .i64 (bitsOp .and .i64 n_.a0 1048575) 4) - (bitsOp .and .i64 n_.a1 8191))) 0), Fixed := false } : Spot) fixed_ r h
theorem hansomlaw42_ApplyValues_L (f_ : Fixup) (n_ : (A4 Int)) (fixed_ : Bool) (r : Bool) (h : hansomlaw42_ApplyValues f_ n_ fixed_ = some r) : L 6 [.d (Fixup.d f_), .d (.agg [.int .i64 n_.a0, .int .i64 n_.a1, .int .i64 n_.a2, .int .i64 n_.a3]), .b fixed_] = some (.b r, [.d (Fixup.d f_), .d (.agg [.int .i64 n_.a0, .int .i64 n_.a1, .int .i64 n_.a2, .int .i64 n_.a3]), .b fixed_]) := by
 obtain ⟨p, ⟨hne, hf⟩, hr⟩ := hansomlaw42_ApplyValues_ok f_ n_ fixed_ r h
 obtain ⟨k, hk⟩ := run_of (F := F6) (args := [.d (Fixup.d f_), .d (.agg [.int .i64 n_.a0, .int .i64 n_.a1, .int .i64 n_.a2, .int .i64 n_.a3]), .b fixed_]) (ap := [.d (Fixup.d f_), .d (.agg [.int .i64 n_.a0, .int .i64 n_.a1, .int .i64 n_.a2, .int .i64 n_.a3]), .b fixed_]) (bx0 := updW (fun _ => none) []) rfl rfl (by kernel_rfl) ⟨p, ⟨hne, hf⟩, hr⟩
 exact lim_run (k := k) rfl hk
end Go.Es.Apv
