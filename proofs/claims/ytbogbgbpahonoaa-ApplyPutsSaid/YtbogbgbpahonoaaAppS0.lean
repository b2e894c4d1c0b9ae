/- The interpreter answers as plain Lean does: part 1. No condition. -/
import Derived.Test.YtbogbgbpahonoaaAppF
import Derived.Test.YtbogbgbpahonoaaAppP
import Derived.KernelRfl
set_option linter.unusedVariables false
set_option linter.unusedSimpArgs false
set_option maxRecDepth 100000
set_option maxHeartbeats 4000000
namespace Go.Es.App
theorem hansomlaw42_awake_L (r : Bool) (h : hansomlaw42_awake = some r) : L 29 [] = some (.d (.bool r), []) := by
  cases h
  exact (lim_iff (F := tab1)).2 ⟨100, by kernel_rfl⟩
def hansomref25_Size_Q (loc_ : Int) (r : Int) (p : Out × St) : Prop := (∀ i, p.1 ≠ .exit i) ∧ finF F30 [.i loc_] p.2 = some (.i r, [.i loc_])
theorem hansomref25_Size_ok (loc_ : Int) (r : Int) (h : hansomref25_Size loc_ = some r) : Runs L F30.body ⟨tmOf [.i loc_] 0, updW (fun _ => none) []⟩ (hansomref25_Size_Q loc_ r) := by
 unfold hansomref25_Size at h
 refine Sq <| Ro <| Rc 1 [vi 0] <| Rk <| Sq <| Sq <| Ro <| Rc 3 [vi loc_, vb (loc_ == 0), vb (loc_ == 0)] ?_
 cases hb_1 : ((loc_ == 0) : Bool) with
 | true =>
  replace h := ite_t hb_1 h
  refine Rc 3 [vn, vn, vb true] <| Rk <| Ct <| Sq <| Ro <| Rc 1 [vi 1] <| Rk <| Runs.ret <| kS_ret ?_
  cases h
  exact Fq
 | false =>
  replace h := ite_f hb_1 h
  refine Rc 3 [vi loc_, vb (loc_ == 4), vb (loc_ == 4)] <| Rk ?_
  cases hb_2 : ((loc_ == 4) : Bool) with
  | true =>
   replace h := ite_t hb_2 h
   refine Ct <| Sq <| Ro <| Rc 1 [vi 1] <| Rk <| Runs.ret <| kS_ret ?_
   cases h
   exact Fq
  | false =>
   replace h := ite_f hb_2 h
   refine Cf <| Runs.skip <| kS_nrm <| Sq <| Sq <| Ro <| Rc 2 [vi loc_, vb (loc_ == 3)] <| Rk ?_
   cases hb_3 : ((loc_ == 3) : Bool) with
   | true =>
    replace h := ite_t hb_3 h
    refine Ct <| Sq <| Ro <| Rc 1 [vi 4] <| Rk <| Runs.ret <| kS_ret ?_
    cases h
    exact Fq
   | false =>
    replace h := ite_f hb_3 h
    refine Cf <| Runs.skip <| kS_nrm <| Sq <| Ro <| Rc 1 [vi 2] <| Rk <| Runs.ret ?_
    cases h
    exact Fq
theorem hansomref25_Size_L (loc_ : Int) (r : Int) (h : hansomref25_Size loc_ = some r) : L 30 [.i loc_] = some (.i r, [.i loc_]) := by
 obtain ⟨p, ⟨hne, hf⟩, hr⟩ := hansomref25_Size_ok loc_ r h
 obtain ⟨k, hk⟩ := run_of (F := F30) (args := [.i loc_]) (ap := [.i loc_]) (bx0 := updW (fun _ => none) []) rfl rfl (by kernel_rfl) ⟨p, ⟨hne, hf⟩, hr⟩
 exact lim_run (k := k) rfl hk
def hansomref25_Near_h6 (f3 : Fixup) (many5 : (A3 Int)) (x6 : Fixup) (n1 : Int) : St := ⟨tab [(1, .i n1), (3, .ptr [3] 0 0), (5, .ptr [5] 0 0), (6, .ptr [6] 0 0)], tabB [([3], some (.cells [.i f3.At, .i f3.Loc, .b f3.Self, .i f3.Frame, .i f3.FrameN, .i f3.Target, .i f3.N, .w f3.Disp] 0)), ([5], some (.cells [.i many5.a0, .i many5.a1, .i many5.a2] 0)), ([6], some (.cells [.i x6.At, .i x6.Loc, .b x6.Self, .i x6.Frame, .i x6.FrameN, .i x6.Target, .i x6.N, .w x6.Disp] 0))]⟩
def hansomref25_Near_h12 (f3 : Fixup) (many5 : (A3 Int)) (x6 : Fixup) : St := ⟨tab [(3, .ptr [3] 0 0), (5, .ptr [5] 0 0), (6, .ptr [6] 0 0)], tabB [([3], some (.cells [.i f3.At, .i f3.Loc, .b f3.Self, .i f3.Frame, .i f3.FrameN, .i f3.Target, .i f3.N, .w f3.Disp] 0)), ([5], some (.cells [.i many5.a0, .i many5.a1, .i many5.a2] 0)), ([6], some (.cells [.i x6.At, .i x6.Loc, .b x6.Self, .i x6.Frame, .i x6.FrameN, .i x6.Target, .i x6.N, .w x6.Disp] 0))]⟩
def hansomref25_Near_h21 (f3 : Fixup) (many5 : (A3 Int)) (x6 : Fixup) : St := ⟨tab [(3, .ptr [3] 0 0), (5, .ptr [5] 0 0), (6, .ptr [6] 0 0)], tabB [([3], some (.cells [.i f3.At, .i f3.Loc, .b f3.Self, .i f3.Frame, .i f3.FrameN, .i f3.Target, .i f3.N, .w f3.Disp] 0)), ([5], some (.cells [.i many5.a0, .i many5.a1, .i many5.a2] 0)), ([6], some (.cells [.i x6.At, .i x6.Loc, .b x6.Self, .i x6.Frame, .i x6.FrameN, .i x6.Target, .i x6.N, .w x6.Disp] 0))]⟩
def hansomref25_Near_h27 (f3 : Fixup) (many5 : (A3 Int)) (x6 : Fixup) : St := ⟨tab [(3, .ptr [3] 0 0), (5, .ptr [5] 0 0), (6, .ptr [6] 0 0)], tabB [([3], some (.cells [.i f3.At, .i f3.Loc, .b f3.Self, .i f3.Frame, .i f3.FrameN, .i f3.Target, .i f3.N, .w f3.Disp] 0)), ([5], some (.cells [.i many5.a0, .i many5.a1, .i many5.a2] 0)), ([6], some (.cells [.i x6.At, .i x6.Loc, .b x6.Self, .i x6.Frame, .i x6.FrameN, .i x6.Target, .i x6.N, .w x6.Disp] 0))]⟩
def hansomref25_Near_h33 (f3 : Fixup) (many5 : (A3 Int)) (x6 : Fixup) : St := ⟨tab [(3, .ptr [3] 0 0), (5, .ptr [5] 0 0), (6, .ptr [6] 0 0)], tabB [([3], some (.cells [.i f3.At, .i f3.Loc, .b f3.Self, .i f3.Frame, .i f3.FrameN, .i f3.Target, .i f3.N, .w f3.Disp] 0)), ([5], some (.cells [.i many5.a0, .i many5.a1, .i many5.a2] 0)), ([6], some (.cells [.i x6.At, .i x6.Loc, .b x6.Self, .i x6.Frame, .i x6.FrameN, .i x6.Target, .i x6.N, .w x6.Disp] 0))]⟩
def hansomref25_Near_Q (f_ : Fixup) (n_ : Int) (many_ : (A3 Int)) (r : Fixup) (p : Out × St) : Prop := (∀ i, p.1 ≠ .exit i) ∧ finF F27 [.d (Fixup.d f_), .i n_, .d (.agg [.int .i64 many_.a0, .int .i64 many_.a1, .int .i64 many_.a2])] p.2 = some (.d (Fixup.d r), [.d (Fixup.d f_), .i n_, .d (.agg [.int .i64 many_.a0, .int .i64 many_.a1, .int .i64 many_.a2])])
def hansomref25_Near_P12 (f_ : Fixup) (n_ : Int) (many_ : (A3 Int)) (f3 : Fixup) (many5 : (A3 Int)) (e : Fixup) (p : Out × St) : Prop := p.1 = .exit 0 ∧ ∃ g : Unit, Canon [] [3, 5, 6] [[3], [5], [6]] p.2 (hansomref25_Near_h21 f3 many5 e)
theorem hansomref25_Near_l12_ok (f_ : Fixup) (n_ : Int) (many_ : (A3 Int)) (f3 : Fixup) (many5 : (A3 Int)) (x6 : Fixup) (r : (Lp Fixup Fixup)) (h : hansomref25_Near_l12 f3 many5 x6 = some r) : Runs L F27l12 (hansomref25_Near_h12 f3 many5 x6) (LQ [] [3, 5, 6] [[3], [5], [6]] (fun (x : Fixup) (g : Unit) => hansomref25_Near_h12 f3 many5 x) (hansomref25_Near_P12 f_ n_ many_ f3 many5) r) := by
 unfold hansomref25_Near_l12 at h
 refine Sq <| Sq <| Ro <| Rc 2 [vp [6] 0 5, vi x6.Target] ?_
 obtain ⟨z_2, hz_2, h⟩ := bind_s h
 refine Rt (some 44) (.iaddrA 3 1) [] none [.ptr [5] 0 0, .i x6.Target] (.ptr [5] 0 (0 + (x6.Target).toNat * 1)) [] (cut_iaA (l := many5.l) hz_2 rfl) <| Rt (some 45) (.load none) [] none [.ptr [5] 0 (0 + (x6.Target).toNat * 1)] (.i z_2) [] (cut_ldA (e := (D.int .i64)) (l := many5.l) (y := z_2) hz_2 (by kernel_rfl) (by kernel_rfl)) <| Rc 1 [vb (z_2 == 0)] <| Rk ?_
 cases hb_2 : ((z_2 == 0) : Bool) with
 | true =>
  replace h := ite_t hb_2 h
  refine Ct <| Runs.skip <| kS_nrm <| Runs.block <| Ro <| Rc 6 [vp [6] 0 5, vi x6.Target, vi (IntKind.wrap .i64 (x6.Target + 1)), vi (Int.tmod (IntKind.wrap .i64 (x6.Target + 1)) 3), vp [6] 0 5, ⟨.tup [], [([6], some (.cells [.i x6.At, .i x6.Loc, .b x6.Self, .i x6.Frame, .i x6.FrameN, .i (Int.tmod (IntKind.wrap .i64 (x6.Target + 1)) 3), .i x6.N, .w x6.Disp] 0))]⟩] <| Rd <| kB_nrm ?_
  obtain rfl := sj h
  exact ⟨rfl, (), Cz⟩
 | false =>
  replace h := ite_f hb_2 h
  refine Cf <| Runs.exit <| kS_exit ?_
  obtain rfl := sj h
  exact ⟨nofun, rfl, (), Cz⟩
theorem hansomref25_Near_j33_ok (f_ : Fixup) (n_ : Int) (many_ : (A3 Int)) (f3 : Fixup) (many5 : (A3 Int)) (x6 : Fixup) (r : Fixup) (h : hansomref25_Near_j33 f3 many5 x6 = some r) : Runs L F27b33 (hansomref25_Near_h33 f3 many5 x6) (hansomref25_Near_Q f_ n_ many_ r) := by
 unfold hansomref25_Near_j33 at h
 refine Sq <| Ro <| Rc 5 [vp [3] 0 6, vi f3.N, vi (bitsOp .and .i64 f3.N 255), vp [6] 0 5, vi x6.Target] ?_
 obtain ⟨z_3, hz_3, h⟩ := bind_s h
 refine Rt (some 72) (.iaddrA 3 1) [] none [.ptr [5] 0 0, .i x6.Target] (.ptr [5] 0 (0 + (x6.Target).toNat * 1)) [] (cut_iaA (l := many5.l) hz_3 rfl) <| Rt (some 73) (.load none) [] none [.ptr [5] 0 (0 + (x6.Target).toNat * 1)] (.i z_3) [] (cut_ldA (e := (D.int .i64)) (l := many5.l) (y := z_3) hz_3 (by kernel_rfl) (by kernel_rfl)) ?_
 obtain ⟨z_4, hz_4, h⟩ := bind_s h
 refine Rt (some 74) (.bin .rem) [] none [.i (bitsOp .and .i64 f3.N 255), .i z_3] (.i z_4) [] (cut_rem hz_4) <| Rc 3 [vi (IntKind.wrap .i64 (z_4 + 1)), vp [6] 0 6, ⟨.tup [], [([6], some (.cells [.i x6.At, .i x6.Loc, .b x6.Self, .i x6.Frame, .i x6.FrameN, .i x6.Target, .i (IntKind.wrap .i64 (z_4 + 1)), .w x6.Disp] 0))]⟩] <| Rk <| Sq <| Sq <| Ro <| Rc 3 [vp [6] 0 3, vi x6.Frame, vb (decide (x6.Frame < 3))] <| Rk ?_
 cases hb_5 : ((decide (x6.Frame < 3)) : Bool) with
 | true =>
  replace h := ite_t hb_5 h
  refine Ct <| Ro <| Rc 5 [vp [3] 0 4, vi f3.FrameN, vi (bitsOp .and .i64 f3.FrameN 255), vp [6] 0 3, vi x6.Frame] ?_
  obtain ⟨z_5, hz_5, h⟩ := bind_s h
  refine Rt (some 85) (.iaddrA 3 1) [] none [.ptr [5] 0 0, .i x6.Frame] (.ptr [5] 0 (0 + (x6.Frame).toNat * 1)) [] (cut_iaA (l := many5.l) hz_5 rfl) <| Rt (some 86) (.load none) [] none [.ptr [5] 0 (0 + (x6.Frame).toNat * 1)] (.i z_5) [] (cut_ldA (e := (D.int .i64)) (l := many5.l) (y := z_5) hz_5 (by kernel_rfl) (by kernel_rfl)) ?_
  obtain ⟨z_6, hz_6, h⟩ := bind_s h
  refine Rt (some 87) (.bin .rem) [] none [.i (bitsOp .and .i64 f3.FrameN 255), .i z_5] (.i z_6) [] (cut_rem hz_6) <| Rc 3 [vi (IntKind.wrap .i64 (z_6 + 1)), vp [6] 0 4, ⟨.tup [], [([6], some (.cells [.i x6.At, .i x6.Loc, .b x6.Self, .i x6.Frame, .i (IntKind.wrap .i64 (z_6 + 1)), .i x6.Target, .i (IntKind.wrap .i64 (z_4 + 1)), .w x6.Disp] 0))]⟩] <| Rk <| Sq <| Ro <| Rc 4 [vp [3] 0 7, vw f3.Disp, vp [6] 0 7, ⟨.tup [], [([6], some (.cells [.i x6.At, .i x6.Loc, .b x6.Self, .i x6.Frame, .i (IntKind.wrap .i64 (z_6 + 1)), .i x6.Target, .i (IntKind.wrap .i64 (z_4 + 1)), .w f3.Disp] 0))]⟩] <| Rk <| Sq <| Ro <| Rc 2 [⟨.d (.agg [.int .i64 x6.At, .int .i64 x6.Loc, .bool x6.Self, .int .i64 x6.Frame, .int .i64 (IntKind.wrap .i64 (z_6 + 1)), .int .i64 x6.Target, .int .i64 (IntKind.wrap .i64 (z_4 + 1)), .int .u16 f3.Disp]), []⟩, ⟨.tup [], [([6], some (.cells [.i x6.At, .i x6.Loc, .b x6.Self, .i x6.Frame, .i (IntKind.wrap .i64 (z_6 + 1)), .i x6.Target, .i (IntKind.wrap .i64 (z_4 + 1)), .w f3.Disp] 0))]⟩] <| Rk <| Runs.ret ?_
  cases h
  exact Fq
 | false =>
  replace h := ite_f hb_5 h
  refine Cf <| Runs.skip <| kS_nrm <| Sq <| Ro <| Rc 4 [vp [3] 0 7, vw f3.Disp, vp [6] 0 7, ⟨.tup [], [([6], some (.cells [.i x6.At, .i x6.Loc, .b x6.Self, .i x6.Frame, .i x6.FrameN, .i x6.Target, .i (IntKind.wrap .i64 (z_4 + 1)), .w f3.Disp] 0))]⟩] <| Rk <| Sq <| Ro <| Rc 2 [⟨.d (.agg [.int .i64 x6.At, .int .i64 x6.Loc, .bool x6.Self, .int .i64 x6.Frame, .int .i64 x6.FrameN, .int .i64 x6.Target, .int .i64 (IntKind.wrap .i64 (z_4 + 1)), .int .u16 f3.Disp]), []⟩, ⟨.tup [], [([6], some (.cells [.i x6.At, .i x6.Loc, .b x6.Self, .i x6.Frame, .i x6.FrameN, .i x6.Target, .i (IntKind.wrap .i64 (z_4 + 1)), .w f3.Disp] 0))]⟩] <| Rk <| Runs.ret ?_
  cases h
  exact Fq
theorem hansomref25_Near_j27_ok (f_ : Fixup) (n_ : Int) (many_ : (A3 Int)) (f3 : Fixup) (many5 : (A3 Int)) (x6 : Fixup) (r : Fixup) (h : hansomref25_Near_j27 f3 many5 x6 = some r) : Runs L F27b27 (hansomref25_Near_h27 f3 many5 x6) (hansomref25_Near_Q f_ n_ many_ r) := by
 unfold hansomref25_Near_j27 at h
 refine Sq <| Sq <| Ro <| Rc 4 [vp [6] 0 3, vi x6.Frame, vb (decide (x6.Frame < 3)), vb (decide (x6.Frame < 3))] ?_
 cases hb_3 : ((decide (x6.Frame < 3)) : Bool) with
 | true =>
  replace h := ite_t hb_3 h
  refine Rc 2 [vp [6] 0 3, vi x6.Frame] ?_
  obtain ⟨z_2, hz_2, h⟩ := bind_s h
  refine Rt (some 62) (.iaddrA 3 1) [] none [.ptr [5] 0 0, .i x6.Frame] (.ptr [5] 0 (0 + (x6.Frame).toNat * 1)) [] (cut_iaA (l := many5.l) hz_2 rfl) <| Rt (some 63) (.load none) [] none [.ptr [5] 0 (0 + (x6.Frame).toNat * 1)] (.i z_2) [] (cut_ldA (e := (D.int .i64)) (l := many5.l) (y := z_2) hz_2 (by kernel_rfl) (by kernel_rfl)) <| Rc 2 [vb (z_2 == 0), vb (z_2 == 0)] <| Rk ?_
  cases hb_4 : ((z_2 == 0) : Bool) with
  | true =>
   replace h := ite_t hb_4 h
   refine Ct <| Ro <| Rc 2 [vp [6] 0 3, ⟨.tup [], [([6], some (.cells [.i x6.At, .i x6.Loc, .b x6.Self, .i 5, .i x6.FrameN, .i x6.Target, .i x6.N, .w x6.Disp] 0))]⟩] <| Rk <| Runs.canon (hansomref25_Near_h33 f3 many5 ({ x6 with Frame := 5 } : Fixup)) Cz ?_
   exact hansomref25_Near_j33_ok f_ n_ many_ f3 many5 ({ x6 with Frame := 5 } : Fixup) r h
  | false =>
   replace h := ite_f hb_4 h
   refine Cf <| Runs.skip <| kS_nrm <| Runs.canon (hansomref25_Near_h33 f3 many5 x6) Cz ?_
   exact hansomref25_Near_j33_ok f_ n_ many_ f3 many5 x6 r h
 | false =>
  replace h := ite_f hb_3 h
  refine Rc 6 [vn, vn, vn, vn, vn, vb false] <| Rk <| Cf <| Runs.skip <| kS_nrm <| Runs.canon (hansomref25_Near_h33 f3 many5 x6) Cz ?_
  exact hansomref25_Near_j33_ok f_ n_ many_ f3 many5 x6 r h
theorem hansomref25_Near_j6_ok (f_ : Fixup) (n_ : Int) (many_ : (A3 Int)) (f3 : Fixup) (many5 : (A3 Int)) (x6 : Fixup) (n1 : Int) (r : Fixup) (h : hansomref25_Near_j6 f3 many5 x6 n1 = some r) : Runs L F27b6 (hansomref25_Near_h6 f3 many5 x6 n1) (hansomref25_Near_Q f_ n_ many_ r) := by
 unfold hansomref25_Near_j6 at h
 refine Sq <| Ro <| Rc 6 [vp [3] 0 0, vi f3.At, vi (bitsOp .and .i64 f3.At 65535), vi n1, vp [6] 0 1, vi x6.Loc] ?_
 obtain ⟨r_1, hr_1, h⟩ := bind_s h
 have hc_1 := hansomref25_Size_L x6.Loc r_1 hr_1
 refine Rt (some 26) (.callf 30) [] (some []) [.i x6.Loc] (.i r_1) [] (cc hc_1) <| Rc 3 [vi (IntKind.wrap .i64 (n1 - r_1)), vi (IntKind.wrap .i64 ((IntKind.wrap .i64 (n1 - r_1)) + 1)), vi (mnI (IntKind.wrap .i64 ((IntKind.wrap .i64 (n1 - r_1)) + 1)) 1024)] ?_
 obtain ⟨z_1, hz_1, h⟩ := bind_s h
 refine Rt (some 30) (.bin .rem) [] none [.i (bitsOp .and .i64 f3.At 65535), .i (mnI (IntKind.wrap .i64 ((IntKind.wrap .i64 (n1 - r_1)) + 1)) 1024)] (.i z_1) [] (cut_rem hz_1) <| Rc 2 [vp [6] 0 0, ⟨.tup [], [([6], some (.cells [.i z_1, .i x6.Loc, .b x6.Self, .i x6.Frame, .i x6.FrameN, .i x6.Target, .i x6.N, .w x6.Disp] 0))]⟩] <| Rk <| Sq <| Ro <| Rc 12 [vp [3] 0 5, vi f3.Target, vi (bitsOp .and .i64 f3.Target 255), vi (Int.tmod (bitsOp .and .i64 f3.Target 255) 3), vp [3] 0 3, vi f3.Frame, vi (bitsOp .and .i64 f3.Frame 255), vi (Int.tmod (bitsOp .and .i64 f3.Frame 255) 5), vp [6] 0 5, ⟨.tup [], [([6], some (.cells [.i z_1, .i x6.Loc, .b x6.Self, .i x6.Frame, .i x6.FrameN, .i (Int.tmod (bitsOp .and .i64 f3.Target 255) 3), .i x6.N, .w x6.Disp] 0))]⟩, vp [6] 0 3, ⟨.tup [], [([6], some (.cells [.i z_1, .i x6.Loc, .b x6.Self, .i (Int.tmod (bitsOp .and .i64 f3.Frame 255) 5), .i x6.FrameN, .i (Int.tmod (bitsOp .and .i64 f3.Target 255) 3), .i x6.N, .w x6.Disp] 0))]⟩] <| Rk <| Sq <| Runs.block ?_
 obtain ⟨e_1, he_1, h⟩ := bind_s h
 refine Runs.loop (fun x : Fixup => hansomref25_Near_l12 f3 many5 x) (fun (x : Fixup) (g : Unit) => hansomref25_Near_h12 f3 many5 x) (hansomref25_Near_P12 f_ n_ many_ f3 many5) (fun x g r hr => hansomref25_Near_l12_ok f_ n_ many_ f3 many5 x  r hr) () he_1 Cz ?_
 rintro ⟨o, s⟩ hp
 obtain ⟨ho, g_1, hk_1⟩ := hp
 have ho' : o = .exit 0 := ho
 subst ho'
 refine kB_hit <| kS_nrm <| Runs.canon _ hk_1 <| Sq <| Sq <| Ro <| Rc 3 [vp [6] 0 3, vi e_1.Frame, vb (e_1.Frame == 3)] <| Rk ?_
 cases hb_2 : ((e_1.Frame == 3) : Bool) with
 | true =>
  replace h := ite_t hb_2 h
  refine Ct <| Ro <| Rc 2 [vp [6] 0 3, ⟨.tup [], [([6], some (.cells [.i e_1.At, .i e_1.Loc, .b e_1.Self, .i 5, .i e_1.FrameN, .i e_1.Target, .i e_1.N, .w e_1.Disp] 0))]⟩] <| Rk <| Runs.canon (hansomref25_Near_h27 f3 many5 ({ e_1 with Frame := 5 } : Fixup)) Cz ?_
  exact hansomref25_Near_j27_ok f_ n_ many_ f3 many5 ({ e_1 with Frame := 5 } : Fixup) r h
 | false =>
  replace h := ite_f hb_2 h
  refine Cf <| Runs.skip <| kS_nrm <| Runs.canon (hansomref25_Near_h27 f3 many5 e_1) Cz ?_
  exact hansomref25_Near_j27_ok f_ n_ many_ f3 many5 e_1 r h
theorem hansomref25_Near_ok (f_ : Fixup) (n_ : Int) (many_ : (A3 Int)) (r : Fixup) (h : hansomref25_Near f_ n_ many_ = some r) : Runs L F27.body ⟨tmOf [.d (Fixup.d f_), .i n_, .d (.agg [.int .i64 many_.a0, .int .i64 many_.a1, .int .i64 many_.a2])] 0, updW (fun _ => none) []⟩ (hansomref25_Near_Q f_ n_ many_ r) := by
 unfold hansomref25_Near at h
 refine Sq <| Ro <| Rc 3 [⟨.ptr [3] 0 0, [([3], some (.cells [.i f_.At, .i f_.Loc, .b f_.Self, .i f_.Frame, .i f_.FrameN, .i f_.Target, .i f_.N, .w f_.Disp] 0))]⟩, ⟨.ptr [5] 0 0, [([5], some (.cells [.i many_.a0, .i many_.a1, .i many_.a2] 0))]⟩, ⟨.ptr [6] 0 0, [([6], some (.cells [.i 0, .i 0, .b false, .i 0, .i 0, .i 0, .i 0, .w 0] 0))]⟩] <| Rk <| Sq <| Ro <| Rc 6 [vp [3] 0 1, vi f_.Loc, vi (bitsOp .and .i64 f_.Loc 255), vi (Int.tmod (bitsOp .and .i64 f_.Loc 255) 5), vp [6] 0 1, ⟨.tup [], [([6], some (.cells [.i 0, .i (Int.tmod (bitsOp .and .i64 f_.Loc 255) 5), .b false, .i 0, .i 0, .i 0, .i 0, .w 0] 0))]⟩] <| Rk <| Sq <| Ro <| Rc 3 [vp [3] 0 2, vb f_.Self, vb f_.Self] ?_
 cases hb_1 : (f_.Self : Bool) with
 | true =>
  replace h := ite_t hb_1 h
  refine Rc 6 [vp [6] 0 1, vi (Int.tmod (bitsOp .and .i64 f_.Loc 255) 5), vb (decide ((Int.tmod (bitsOp .and .i64 f_.Loc 255) 5) < 2)), vb (decide ((Int.tmod (bitsOp .and .i64 f_.Loc 255) 5) < 2)), vp [6] 0 2, ⟨.tup [], [([6], some (.cells [.i 0, .i (Int.tmod (bitsOp .and .i64 f_.Loc 255) 5), .b (decide ((Int.tmod (bitsOp .and .i64 f_.Loc 255) 5) < 2)), .i 0, .i 0, .i 0, .i 0, .w 0] 0))]⟩] <| Rk <| Runs.canon (hansomref25_Near_h6 ({ f_ with Self := true } : Fixup) many_ ({ At := 0, Loc := (Int.tmod (bitsOp .and .i64 f_.Loc 255) 5), Self := (decide ((Int.tmod (bitsOp .and .i64 f_.Loc 255) 5) < 2)), Frame := 0, FrameN := 0, Target := 0, N := 0, Disp := 0 } : Fixup) n_) Cz ?_
  exact hansomref25_Near_j6_ok f_ n_ many_ ({ f_ with Self := true } : Fixup) many_ ({ At := 0, Loc := (Int.tmod (bitsOp .and .i64 f_.Loc 255) 5), Self := (decide ((Int.tmod (bitsOp .and .i64 f_.Loc 255) 5) < 2)), Frame := 0, FrameN := 0, Target := 0, N := 0, Disp := 0 } : Fixup) n_ r h
 | false =>
  replace h := ite_f hb_1 h
  refine Rc 6 [vn, vn, vn, vb false, vp [6] 0 2, ⟨.tup [], [([6], some (.cells [.i 0, .i (Int.tmod (bitsOp .and .i64 f_.Loc 255) 5), .b false, .i 0, .i 0, .i 0, .i 0, .w 0] 0))]⟩] <| Rk <| Runs.canon (hansomref25_Near_h6 ({ f_ with Self := false } : Fixup) many_ ({ At := 0, Loc := (Int.tmod (bitsOp .and .i64 f_.Loc 255) 5), Self := false, Frame := 0, FrameN := 0, Target := 0, N := 0, Disp := 0 } : Fixup) n_) Cz ?_
  exact hansomref25_Near_j6_ok f_ n_ many_ ({ f_ with Self := false } : Fixup) many_ ({ At := 0, Loc := (Int.tmod (bitsOp .and .i64 f_.Loc 255) 5), Self := false, Frame := 0, FrameN := 0, Target := 0, N := 0, Disp := 0 } : Fixup) n_ r h
theorem hansomref25_Near_L (f_ : Fixup) (n_ : Int) (many_ : (A3 Int)) (r : Fixup) (h : hansomref25_Near f_ n_ many_ = some r) : L 27 [.d (Fixup.d f_), .i n_, .d (.agg [.int .i64 many_.a0, .int .i64 many_.a1, .int .i64 many_.a2])] = some (.d (Fixup.d r), [.d (Fixup.d f_), .i n_, .d (.agg [.int .i64 many_.a0, .int .i64 many_.a1, .int .i64 many_.a2])]) := by
 obtain ⟨p, ⟨hne, hf⟩, hr⟩ := hansomref25_Near_ok f_ n_ many_ r h
 obtain ⟨k, hk⟩ := run_of (F := F27) (args := [.d (Fixup.d f_), .i n_, .d (.agg [.int .i64 many_.a0, .int .i64 many_.a1, .int .i64 many_.a2])]) (ap := [.d (Fixup.d f_), .i n_, .d (.agg [.int .i64 many_.a0, .int .i64 many_.a1, .int .i64 many_.a2])]) (bx0 := updW (fun _ => none) []) rfl rfl (by kernel_rfl) ⟨p, ⟨hne, hf⟩, hr⟩
 exact lim_run (k := k) rfl hk
def fixup_Size_Q (loc_ : Int) (r : Int) (p : Out × St) : Prop := (∀ i, p.1 ≠ .exit i) ∧ finF F58 [.i loc_] p.2 = some (.i r, [.i loc_])
theorem fixup_Size_ok (loc_ : Int) (r : Int) (h : fixup_Size loc_ = some r) : Runs L F58.body ⟨tmOf [.i loc_] 0, updW (fun _ => none) []⟩ (fixup_Size_Q loc_ r) := by
 unfold fixup_Size at h
 refine Sq <| Ro <| Rc 1 [vi 0] <| Rk <| Sq <| Sq <| Ro <| Rc 1 [vi loc_] <| Rk <| Runs.block <| Sq <| Sq <| Ro <| Rc 2 [vb (loc_ == 0), vb (loc_ == 0)] <| Rk ?_
 cases hb_1 : ((loc_ == 0) : Bool) with
 | true =>
  replace h := ite_t hb_1 h
  refine Ct <| Runs.skip <| kS_nrm <| Ct <| Sq <| Ro <| Rc 1 [vi 1] <| Rk <| Runs.ret <| kB_ret <| kS_ret ?_
  cases h
  exact Fq
 | false =>
  replace h := ite_f hb_1 h
  refine Cf <| Ro <| Rc 2 [vb (loc_ == 4), vb (loc_ == 4)] <| Rk ?_
  cases hb_2 : ((loc_ == 4) : Bool) with
  | true =>
   replace h := ite_t hb_2 h
   refine Ct <| Sq <| Ro <| Rc 1 [vi 1] <| Rk <| Runs.ret <| kB_ret <| kS_ret ?_
   cases h
   exact Fq
  | false =>
   replace h := ite_f hb_2 h
   refine Cf <| Sq <| Ro <| Rc 2 [vb (loc_ == 3), vb (loc_ == 3)] <| Rk ?_
   cases hb_3 : ((loc_ == 3) : Bool) with
   | true =>
    replace h := ite_t hb_3 h
    refine Ct <| Sq <| Ro <| Rc 1 [vi 4] <| Rk <| Runs.ret <| kB_ret <| kS_ret ?_
    cases h
    exact Fq
   | false =>
    replace h := ite_f hb_3 h
    refine Cf <| Runs.skip <| kB_nrm <| kS_nrm <| Sq <| Ro <| Rc 1 [vi 2] <| Rk <| Runs.ret ?_
    cases h
    exact Fq
theorem fixup_Size_L (loc_ : Int) (r : Int) (h : fixup_Size loc_ = some r) : L 58 [.i loc_] = some (.i r, [.i loc_]) := by
 obtain ⟨p, ⟨hne, hf⟩, hr⟩ := fixup_Size_ok loc_ r h
 obtain ⟨k, hk⟩ := run_of (F := F58) (args := [.i loc_]) (ap := [.i loc_]) (bx0 := updW (fun _ => none) []) rfl rfl (by kernel_rfl) ⟨p, ⟨hne, hf⟩, hr⟩
 exact lim_run (k := k) rfl hk
def apply_add_Q (b_ : (List Int)) (at_ : Int) (n_ : Int) (r : (List Int)) (p : Out × St) : Prop := (∀ i, p.1 ≠ .exit i) ∧ finF F59 [.ref [0] 0 0 (mY b_).length 1, .i at_, .w n_] p.2 = some (.tup [], [.arr false 1 (mY r), .i at_, .w n_])
theorem apply_add_ok (b_ : (List Int)) (at_ : Int) (n_ : Int) (r : (List Int)) (h : apply_add b_ at_ n_ = some r) : Runs L F59.body ⟨tmOf [.ref [0] 0 0 (mY b_).length 1, .i at_, .w n_] 0, updW (fun _ => none) [([0], some (.arr (mY b_) 0 false))]⟩ (apply_add_Q b_ at_ n_ r) := by
 unfold apply_add at h
 refine Sq <| Sq <| Ro <| Rc 2 [⟨.ref [0] 0 0 (mY b_).length 1, []⟩, vi at_] ?_
 obtain ⟨z_1, hz_1, h⟩ := bind_s h
 refine Rt (some 9) (.iaddrS 1) [] none [.ref [0] 0 0 (mY b_).length 1, .i at_] (.eref [0] 0 (0 + (at_).toNat) 0) [] (cut_atR (e := (D.int .u8)) (l := b_) hz_1 rfl) <| Rt (some 10) (.load none) [] none [.eref [0] 0 (0 + (at_).toNat) 0] (.y z_1) [] (cut_loadR (e := (D.int .u8)) (l := b_) (fz := false) (y := z_1) (by kernel_rfl) hz_1 (by kernel_rfl) (by kernel_rfl)) <| Rc 4 [vw (IntKind.wrap .u16 z_1), ⟨.ref [0] 0 0 (mY b_).length 1, []⟩, vi at_, vi (IntKind.wrap .i64 (at_ + 1))] ?_
 obtain ⟨z_2, hz_2, h⟩ := bind_s h
 refine Rt (some 15) (.iaddrS 1) [] none [.ref [0] 0 0 (mY b_).length 1, .i (IntKind.wrap .i64 (at_ + 1))] (.eref [0] 0 (0 + ((IntKind.wrap .i64 (at_ + 1))).toNat) 0) [] (cut_atR (e := (D.int .u8)) (l := b_) hz_2 rfl) <| Rt (some 16) (.load none) [] none [.eref [0] 0 (0 + ((IntKind.wrap .i64 (at_ + 1))).toNat) 0] (.y z_2) [] (cut_loadR (e := (D.int .u8)) (l := b_) (fz := false) (y := z_2) (by kernel_rfl) hz_2 (by kernel_rfl) (by kernel_rfl)) <| Rc 4 [vw (IntKind.wrap .u16 z_2), vw (shlI .u16 (IntKind.wrap .u16 z_2) 8), vw (bitsOp .or .u16 (IntKind.wrap .u16 z_1) (shlI .u16 (IntKind.wrap .u16 z_2) 8)), vw (bitsOp .or .u16 (IntKind.wrap .u16 z_1) (shlI .u16 (IntKind.wrap .u16 z_2) 8))] <| Rk <| Sq <| Ro <| Rc 4 [vw (bitsOp .or .u16 (IntKind.wrap .u16 z_1) (shlI .u16 (IntKind.wrap .u16 z_2) 8)), vw n_, vw (IntKind.wrap .u16 ((bitsOp .or .u16 (IntKind.wrap .u16 z_1) (shlI .u16 (IntKind.wrap .u16 z_2) 8)) + n_)), vw (IntKind.wrap .u16 ((bitsOp .or .u16 (IntKind.wrap .u16 z_1) (shlI .u16 (IntKind.wrap .u16 z_2) 8)) + n_))] <| Rk <| Ro <| Rc 10 [⟨.ref [0] 0 0 (mY b_).length 1, []⟩, vi at_, ⟨.ref [0] 0 0 (mY b_).length 1, []⟩, vi at_, vi (IntKind.wrap .i64 (at_ + 1)), vw (IntKind.wrap .u16 ((bitsOp .or .u16 (IntKind.wrap .u16 z_1) (shlI .u16 (IntKind.wrap .u16 z_2) 8)) + n_)), vy (IntKind.wrap .u8 (IntKind.wrap .u16 ((bitsOp .or .u16 (IntKind.wrap .u16 z_1) (shlI .u16 (IntKind.wrap .u16 z_2) 8)) + n_))), vw (IntKind.wrap .u16 ((bitsOp .or .u16 (IntKind.wrap .u16 z_1) (shlI .u16 (IntKind.wrap .u16 z_2) 8)) + n_)), vw (shrI .u16 (IntKind.wrap .u16 ((bitsOp .or .u16 (IntKind.wrap .u16 z_1) (shlI .u16 (IntKind.wrap .u16 z_2) 8)) + n_)) 8), vy (IntKind.wrap .u8 (shrI .u16 (IntKind.wrap .u16 ((bitsOp .or .u16 (IntKind.wrap .u16 z_1) (shlI .u16 (IntKind.wrap .u16 z_2) 8)) + n_)) 8))] ?_
 obtain ⟨z_3, hz_3, h⟩ := bind_s h
 refine Rt (some 33) (.iaddrS 1) [] none [.ref [0] 0 0 (mY b_).length 1, .i at_] (.eref [0] 0 (0 + (at_).toNat) 0) [] (cut_atR (e := (D.int .u8)) (l := b_) hz_3 rfl) <| Rt none (.store 1) [] none [.eref [0] 0 (0 + (at_).toNat) 0, .y (IntKind.wrap .u8 (IntKind.wrap .u16 ((bitsOp .or .u16 (IntKind.wrap .u16 z_1) (shlI .u16 (IntKind.wrap .u16 z_2) 8)) + n_)))] (.tup []) [([0], some (.arr (mY (List.set b_ (at_).toNat (IntKind.wrap .u8 (IntKind.wrap .u16 ((bitsOp .or .u16 (IntKind.wrap .u16 z_1) (shlI .u16 (IntKind.wrap .u16 z_2) 8)) + n_))))) 0 false))] (cut_setR (e := (D.int .u8)) (l := b_) (y := z_3) (y' := (IntKind.wrap .u8 (IntKind.wrap .u16 ((bitsOp .or .u16 (IntKind.wrap .u16 z_1) (shlI .u16 (IntKind.wrap .u16 z_2) 8)) + n_)))) (ds := [.int .u8 (IntKind.wrap .u8 (IntKind.wrap .u16 ((bitsOp .or .u16 (IntKind.wrap .u16 z_1) (shlI .u16 (IntKind.wrap .u16 z_2) 8)) + n_)))]) (by kernel_rfl) hz_3 (by kernel_rfl) (by kernel_rfl) (by kernel_rfl) (by kernel_rfl)) ?_
 obtain ⟨z_4, hz_4, h⟩ := bind_s h
 refine Rt (some 34) (.iaddrS 1) [] none [.ref [0] 0 0 (mY b_).length 1, .i (IntKind.wrap .i64 (at_ + 1))] (.eref [0] 0 (0 + ((IntKind.wrap .i64 (at_ + 1))).toNat) 0) [] (cut_atR (e := (D.int .u8)) (l := (List.set b_ (at_).toNat (IntKind.wrap .u8 (IntKind.wrap .u16 ((bitsOp .or .u16 (IntKind.wrap .u16 z_1) (shlI .u16 (IntKind.wrap .u16 z_2) 8)) + n_))))) hz_4 (by simp only [List.length_map, List.length_set, cpy_length] : (mY b_).length = (mY (List.set b_ (at_).toNat (IntKind.wrap .u8 (IntKind.wrap .u16 ((bitsOp .or .u16 (IntKind.wrap .u16 z_1) (shlI .u16 (IntKind.wrap .u16 z_2) 8)) + n_))))).length)) <| Rt none (.store 1) [] none [.eref [0] 0 (0 + ((IntKind.wrap .i64 (at_ + 1))).toNat) 0, .y (IntKind.wrap .u8 (shrI .u16 (IntKind.wrap .u16 ((bitsOp .or .u16 (IntKind.wrap .u16 z_1) (shlI .u16 (IntKind.wrap .u16 z_2) 8)) + n_)) 8))] (.tup []) [([0], some (.arr (mY (List.set (List.set b_ (at_).toNat (IntKind.wrap .u8 (IntKind.wrap .u16 ((bitsOp .or .u16 (IntKind.wrap .u16 z_1) (shlI .u16 (IntKind.wrap .u16 z_2) 8)) + n_)))) ((IntKind.wrap .i64 (at_ + 1))).toNat (IntKind.wrap .u8 (shrI .u16 (IntKind.wrap .u16 ((bitsOp .or .u16 (IntKind.wrap .u16 z_1) (shlI .u16 (IntKind.wrap .u16 z_2) 8)) + n_)) 8)))) 0 false))] (cut_setR (e := (D.int .u8)) (l := (List.set b_ (at_).toNat (IntKind.wrap .u8 (IntKind.wrap .u16 ((bitsOp .or .u16 (IntKind.wrap .u16 z_1) (shlI .u16 (IntKind.wrap .u16 z_2) 8)) + n_))))) (y := z_4) (y' := (IntKind.wrap .u8 (shrI .u16 (IntKind.wrap .u16 ((bitsOp .or .u16 (IntKind.wrap .u16 z_1) (shlI .u16 (IntKind.wrap .u16 z_2) 8)) + n_)) 8))) (ds := [.int .u8 (IntKind.wrap .u8 (shrI .u16 (IntKind.wrap .u16 ((bitsOp .or .u16 (IntKind.wrap .u16 z_1) (shlI .u16 (IntKind.wrap .u16 z_2) 8)) + n_)) 8))]) (by kernel_rfl) hz_4 (by kernel_rfl) (by kernel_rfl) (by kernel_rfl) (by kernel_rfl)) ?_
 refine Rk <| Runs.gnil ?_
 obtain rfl := sj h
 exact ⟨Out.nrm_ne, (fin_ofL (rs := []) (by kernel_rfl) (map_cons_ (lendP_of (fz := false) (es := List.map (D.int .u8) (List.set (List.set b_ (at_).toNat (IntKind.wrap .u8 (IntKind.wrap .u16 ((bitsOp .or .u16 (IntKind.wrap .u16 z_1) (shlI .u16 (IntKind.wrap .u16 z_2) 8)) + n_)))) ((IntKind.wrap .i64 (at_ + 1))).toNat (IntKind.wrap .u8 (shrI .u16 (IntKind.wrap .u16 ((bitsOp .or .u16 (IntKind.wrap .u16 z_1) (shlI .u16 (IntKind.wrap .u16 z_2) 8)) + n_)) 8)))) (by kernel_rfl) (by simp only [List.length_map, List.length_set, cpy_length] : (mY b_).length = (mY (List.set (List.set b_ (at_).toNat (IntKind.wrap .u8 (IntKind.wrap .u16 ((bitsOp .or .u16 (IntKind.wrap .u16 z_1) (shlI .u16 (IntKind.wrap .u16 z_2) 8)) + n_)))) ((IntKind.wrap .i64 (at_ + 1))).toNat (IntKind.wrap .u8 (shrI .u16 (IntKind.wrap .u16 ((bitsOp .or .u16 (IntKind.wrap .u16 z_1) (shlI .u16 (IntKind.wrap .u16 z_2) 8)) + n_)) 8)))).length) (by decide)) (map_cons_ rfl (map_cons_ rfl map_nil_))) (by kernel_rfl) outs_nil (gives_cons (give_lref (fz := false) (es := List.map (D.int .u8) (List.set (List.set b_ (at_).toNat (IntKind.wrap .u8 (IntKind.wrap .u16 ((bitsOp .or .u16 (IntKind.wrap .u16 z_1) (shlI .u16 (IntKind.wrap .u16 z_2) 8)) + n_)))) ((IntKind.wrap .i64 (at_ + 1))).toNat (IntKind.wrap .u8 (shrI .u16 (IntKind.wrap .u16 ((bitsOp .or .u16 (IntKind.wrap .u16 z_1) (shlI .u16 (IntKind.wrap .u16 z_2) 8)) + n_)) 8)))) (by kernel_rfl) (by simp only [List.length_map, List.length_set, cpy_length] : (mY b_).length = (mY (List.set (List.set b_ (at_).toNat (IntKind.wrap .u8 (IntKind.wrap .u16 ((bitsOp .or .u16 (IntKind.wrap .u16 z_1) (shlI .u16 (IntKind.wrap .u16 z_2) 8)) + n_)))) ((IntKind.wrap .i64 (at_ + 1))).toNat (IntKind.wrap .u8 (shrI .u16 (IntKind.wrap .u16 ((bitsOp .or .u16 (IntKind.wrap .u16 z_1) (shlI .u16 (IntKind.wrap .u16 z_2) 8)) + n_)) 8)))).length) (by kernel_rfl) (by decide)) (gives_cons (give_same (by kernel_rfl)) (gives_cons (give_same (by kernel_rfl)) gives_nil))))⟩
theorem apply_add_L (b_ : (List Int)) (at_ : Int) (n_ : Int) (r : (List Int)) (h : apply_add b_ at_ n_ = some r) : L 59 [.arr false 1 (mY b_), .i at_, .w n_] = some (.tup [], [.arr false 1 (mY r), .i at_, .w n_]) := by
 obtain ⟨p, ⟨hne, hf⟩, hr⟩ := apply_add_ok b_ at_ n_ r h
 obtain ⟨k, hk⟩ := run_of (F := F59) (args := [.arr false 1 (mY b_), .i at_, .w n_]) (ap := [.ref [0] 0 0 (mY b_).length 1, .i at_, .w n_]) (bx0 := updW (fun _ => none) [([0], some (.arr (mY b_) 0 false))]) rfl rfl (by kernel_rfl) ⟨p, ⟨hne, hf⟩, hr⟩
 exact lim_run (k := k) rfl hk
def apply_Put_Q (b_ : (List Int)) (at_ : Int) (f_ : Fixup) (off_ : Int) (para_ : Int) (r : (Int × (List Int))) (p : Out × St) : Prop := (∀ i, p.1 ≠ .exit i) ∧ finF F31 [.ref [0] 0 0 (mY b_).length 1, .i at_, .d (Fixup.d f_), .w off_, .w para_] p.2 = some (.i r.1, [.arr false 1 (mY r.2), .i at_, .d (Fixup.d f_), .w off_, .w para_])
theorem apply_Put_ok (b_ : (List Int)) (at_ : Int) (f_ : Fixup) (off_ : Int) (para_ : Int) (r : (Int × (List Int))) (h : apply_Put b_ at_ f_ off_ para_ = some r) : Runs L F31.body ⟨tmOf [.ref [0] 0 0 (mY b_).length 1, .i at_, .d (Fixup.d f_), .w off_, .w para_] 0, updW (fun _ => none) [([0], some (.arr (mY b_) 0 false))]⟩ (apply_Put_Q b_ at_ f_ off_ para_ r) := by
 unfold apply_Put at h
 refine Sq <| Ro <| Rc 2 [⟨.ptr [7] 0 0, [([7], some (.cells [.i f_.At, .i f_.Loc, .b f_.Self, .i f_.Frame, .i f_.FrameN, .i f_.Target, .i f_.N, .w f_.Disp] 0))]⟩, vi 0] <| Rk <| Sq <| Sq <| Ro <| Rc 3 [vi at_, vb (decide (at_ < 0)), vb (decide (at_ < 0))] ?_
 cases hb_1 : ((decide (at_ < 0)) : Bool) with
 | true =>
  replace h := ite_t hb_1 h
  refine Rc 9 [vn, vn, vn, vn, vn, vn, vn, vn, vb true] <| Rk <| Ct <| Sq <| Ro <| Rc 1 [vi (-1)] <| Rk <| Runs.ret <| kS_ret ?_
  obtain rfl := sj h
  exact ⟨Out.ret_ne, (fin_ofL (rs := [.i (-1)]) (by kernel_rfl) (map_cons_ (lendP_of (fz := false) (es := List.map (D.int .u8) b_) (by kernel_rfl) rfl (by decide)) (map_cons_ rfl (map_cons_ rfl (map_cons_ rfl (map_cons_ rfl map_nil_))))) (by kernel_rfl) (outs_d outs_nil) (gives_cons (give_lref (fz := false) (es := List.map (D.int .u8) b_) (by kernel_rfl) rfl (by kernel_rfl) (by decide)) (gives_cons (give_same (by kernel_rfl)) (gives_cons (give_same (by kernel_rfl)) (gives_cons (give_same (by kernel_rfl)) (gives_cons (give_same (by kernel_rfl)) gives_nil))))))⟩
 | false =>
  replace h := ite_f hb_1 h
  refine Rc 2 [vi at_, ⟨.ref [0] 0 0 (mY b_).length 1, []⟩] <| Rt (some 16) .lenL [] none [.ref [0] 0 0 (mY b_).length 1] (.i (b_.length : Int)) [] (cut_lenR (e := (D.int .u8)) b_ rfl) <| Rc 2 [vp [7] 0 1, vi f_.Loc] ?_
  obtain ⟨r_1, hr_1, h⟩ := bind_s h
  have hc_1 := fixup_Size_L f_.Loc r_1 hr_1
  refine Rt (some 19) (.callf 58) [] none [.i f_.Loc] (.i r_1) [] (cc hc_1) <| Rc 3 [vi (IntKind.wrap .i64 ((b_.length : Int) - r_1)), vb (decide (at_ > (IntKind.wrap .i64 ((b_.length : Int) - r_1)))), vb (decide (at_ > (IntKind.wrap .i64 ((b_.length : Int) - r_1))))] <| Rk ?_
  cases hb_2 : ((decide (at_ > (IntKind.wrap .i64 ((b_.length : Int) - r_1)))) : Bool) with
  | true =>
   replace h := ite_t hb_2 h
   refine Ct <| Sq <| Ro <| Rc 1 [vi (-1)] <| Rk <| Runs.ret <| kS_ret ?_
   obtain rfl := sj h
   exact ⟨Out.ret_ne, (fin_ofL (rs := [.i (-1)]) (by kernel_rfl) (map_cons_ (lendP_of (fz := false) (es := List.map (D.int .u8) b_) (by kernel_rfl) rfl (by decide)) (map_cons_ rfl (map_cons_ rfl (map_cons_ rfl (map_cons_ rfl map_nil_))))) (by kernel_rfl) (outs_d outs_nil) (gives_cons (give_lref (fz := false) (es := List.map (D.int .u8) b_) (by kernel_rfl) rfl (by kernel_rfl) (by decide)) (gives_cons (give_same (by kernel_rfl)) (gives_cons (give_same (by kernel_rfl)) (gives_cons (give_same (by kernel_rfl)) (gives_cons (give_same (by kernel_rfl)) gives_nil))))))⟩
  | false =>
   replace h := ite_f hb_2 h
   refine Cf <| Runs.skip <| kS_nrm <| Sq <| Sq <| Ro <| Rc 2 [vp [7] 0 1, vi f_.Loc] <| Rk <| Runs.block <| Sq <| Ro <| Rc 2 [vb (f_.Loc == 0), vb (f_.Loc == 0)] <| Rk ?_
   cases hb_3 : ((f_.Loc == 0) : Bool) with
   | true =>
    replace h := ite_t hb_3 h
    refine Ct <| Ro <| Rc 2 [⟨.ref [0] 0 0 (mY b_).length 1, []⟩, vi at_] ?_
    obtain ⟨z_1, hz_1, h⟩ := bind_s h
    refine Rt (some 33) (.iaddrS 1) [] none [.ref [0] 0 0 (mY b_).length 1, .i at_] (.eref [0] 0 (0 + (at_).toNat) 0) [] (cut_atR (e := (D.int .u8)) (l := b_) hz_1 rfl) <| Rt (some 34) (.load none) [] none [.eref [0] 0 (0 + (at_).toNat) 0] (.y z_1) [] (cut_loadR (e := (D.int .u8)) (l := b_) (fz := false) (y := z_1) (by kernel_rfl) hz_1 (by kernel_rfl) (by kernel_rfl)) <| Rc 3 [vw off_, vy (IntKind.wrap .u8 off_), vy (IntKind.wrap .u8 (z_1 + (IntKind.wrap .u8 off_)))] ?_
    obtain ⟨z_2, hz_2, h⟩ := bind_s h
    refine Rt (some 38) (.iaddrS 1) [] none [.ref [0] 0 0 (mY b_).length 1, .i at_] (.eref [0] 0 (0 + (at_).toNat) 0) [] (cut_atR (e := (D.int .u8)) (l := b_) hz_2 rfl) <| Rt none (.store 1) [] none [.eref [0] 0 (0 + (at_).toNat) 0, .y (IntKind.wrap .u8 (z_1 + (IntKind.wrap .u8 off_)))] (.tup []) [([0], some (.arr (mY (List.set b_ (at_).toNat (IntKind.wrap .u8 (z_1 + (IntKind.wrap .u8 off_))))) 0 false))] (cut_setR (e := (D.int .u8)) (l := b_) (y := z_2) (y' := (IntKind.wrap .u8 (z_1 + (IntKind.wrap .u8 off_)))) (ds := [.int .u8 (IntKind.wrap .u8 (z_1 + (IntKind.wrap .u8 off_)))]) (by kernel_rfl) hz_2 (by kernel_rfl) (by kernel_rfl) (by kernel_rfl) (by kernel_rfl)) <| Rd <| kB_nrm <| kS_nrm <| Sq <| Ro <| Rc 1 [vi (-1)] <| Rk <| Runs.ret ?_
    obtain rfl := sj h
    exact ⟨Out.ret_ne, (fin_ofL (rs := [.i (-1)]) (by kernel_rfl) (map_cons_ (lendP_of (fz := false) (es := List.map (D.int .u8) (List.set b_ (at_).toNat (IntKind.wrap .u8 (z_1 + (IntKind.wrap .u8 off_))))) (by kernel_rfl) (by simp only [List.length_map, List.length_set, cpy_length] : (mY b_).length = (mY (List.set b_ (at_).toNat (IntKind.wrap .u8 (z_1 + (IntKind.wrap .u8 off_))))).length) (by decide)) (map_cons_ rfl (map_cons_ rfl (map_cons_ rfl (map_cons_ rfl map_nil_))))) (by kernel_rfl) (outs_d outs_nil) (gives_cons (give_lref (fz := false) (es := List.map (D.int .u8) (List.set b_ (at_).toNat (IntKind.wrap .u8 (z_1 + (IntKind.wrap .u8 off_))))) (by kernel_rfl) (by simp only [List.length_map, List.length_set, cpy_length] : (mY b_).length = (mY (List.set b_ (at_).toNat (IntKind.wrap .u8 (z_1 + (IntKind.wrap .u8 off_))))).length) (by kernel_rfl) (by decide)) (gives_cons (give_same (by kernel_rfl)) (gives_cons (give_same (by kernel_rfl)) (gives_cons (give_same (by kernel_rfl)) (gives_cons (give_same (by kernel_rfl)) gives_nil))))))⟩
   | false =>
    replace h := ite_f hb_3 h
    refine Cf <| Sq <| Ro <| Rc 2 [vb (f_.Loc == 4), vb (f_.Loc == 4)] <| Rk ?_
    cases hb_4 : ((f_.Loc == 4) : Bool) with
    | true =>
     replace h := ite_t hb_4 h
     refine Ct <| Ro <| Rc 2 [⟨.ref [0] 0 0 (mY b_).length 1, []⟩, vi at_] ?_
     obtain ⟨z_3, hz_3, h⟩ := bind_s h
     refine Rt (some 43) (.iaddrS 1) [] none [.ref [0] 0 0 (mY b_).length 1, .i at_] (.eref [0] 0 (0 + (at_).toNat) 0) [] (cut_atR (e := (D.int .u8)) (l := b_) hz_3 rfl) <| Rt (some 44) (.load none) [] none [.eref [0] 0 (0 + (at_).toNat) 0] (.y z_3) [] (cut_loadR (e := (D.int .u8)) (l := b_) (fz := false) (y := z_3) (by kernel_rfl) hz_3 (by kernel_rfl) (by kernel_rfl)) <| Rc 4 [vw off_, vw (shrI .u16 off_ 8), vy (IntKind.wrap .u8 (shrI .u16 off_ 8)), vy (IntKind.wrap .u8 (z_3 + (IntKind.wrap .u8 (shrI .u16 off_ 8))))] ?_
     obtain ⟨z_4, hz_4, h⟩ := bind_s h
     refine Rt (some 49) (.iaddrS 1) [] none [.ref [0] 0 0 (mY b_).length 1, .i at_] (.eref [0] 0 (0 + (at_).toNat) 0) [] (cut_atR (e := (D.int .u8)) (l := b_) hz_4 rfl) <| Rt none (.store 1) [] none [.eref [0] 0 (0 + (at_).toNat) 0, .y (IntKind.wrap .u8 (z_3 + (IntKind.wrap .u8 (shrI .u16 off_ 8))))] (.tup []) [([0], some (.arr (mY (List.set b_ (at_).toNat (IntKind.wrap .u8 (z_3 + (IntKind.wrap .u8 (shrI .u16 off_ 8)))))) 0 false))] (cut_setR (e := (D.int .u8)) (l := b_) (y := z_4) (y' := (IntKind.wrap .u8 (z_3 + (IntKind.wrap .u8 (shrI .u16 off_ 8))))) (ds := [.int .u8 (IntKind.wrap .u8 (z_3 + (IntKind.wrap .u8 (shrI .u16 off_ 8))))]) (by kernel_rfl) hz_4 (by kernel_rfl) (by kernel_rfl) (by kernel_rfl) (by kernel_rfl)) <| Rd <| kB_nrm <| kS_nrm <| Sq <| Ro <| Rc 1 [vi (-1)] <| Rk <| Runs.ret ?_
     obtain rfl := sj h
     exact ⟨Out.ret_ne, (fin_ofL (rs := [.i (-1)]) (by kernel_rfl) (map_cons_ (lendP_of (fz := false) (es := List.map (D.int .u8) (List.set b_ (at_).toNat (IntKind.wrap .u8 (z_3 + (IntKind.wrap .u8 (shrI .u16 off_ 8)))))) (by kernel_rfl) (by simp only [List.length_map, List.length_set, cpy_length] : (mY b_).length = (mY (List.set b_ (at_).toNat (IntKind.wrap .u8 (z_3 + (IntKind.wrap .u8 (shrI .u16 off_ 8)))))).length) (by decide)) (map_cons_ rfl (map_cons_ rfl (map_cons_ rfl (map_cons_ rfl map_nil_))))) (by kernel_rfl) (outs_d outs_nil) (gives_cons (give_lref (fz := false) (es := List.map (D.int .u8) (List.set b_ (at_).toNat (IntKind.wrap .u8 (z_3 + (IntKind.wrap .u8 (shrI .u16 off_ 8)))))) (by kernel_rfl) (by simp only [List.length_map, List.length_set, cpy_length] : (mY b_).length = (mY (List.set b_ (at_).toNat (IntKind.wrap .u8 (z_3 + (IntKind.wrap .u8 (shrI .u16 off_ 8)))))).length) (by kernel_rfl) (by decide)) (gives_cons (give_same (by kernel_rfl)) (gives_cons (give_same (by kernel_rfl)) (gives_cons (give_same (by kernel_rfl)) (gives_cons (give_same (by kernel_rfl)) gives_nil))))))⟩
    | false =>
     replace h := ite_f hb_4 h
     refine Cf <| Sq <| Ro <| Rc 2 [vb (f_.Loc == 2), vb (f_.Loc == 2)] <| Rk ?_
     cases hb_5 : ((f_.Loc == 2) : Bool) with
     | true =>
      replace h := ite_t hb_5 h
      refine Ct <| Sq <| Ro <| Rc 3 [⟨.ref [0] 0 0 (mY b_).length 1, []⟩, vi at_, vw para_] ?_
      obtain ⟨r_2, hr_2, h⟩ := bind_s h
      have hc_2 := apply_add_L b_ at_ para_ r_2 hr_2
      have hn_1 := lim_len (F := tab1) (X := fun _ _ => none) hc_2 (show tab1 59 = some F59 from by kernel_rfl) rfl 0 rfl (by decide) rfl
      refine Rt (some 55) (.callf 59) [] none [.lref [0] 0 0 (mY b_).length 1, .i at_, .w para_] (.tup []) [([0], some (.arr (mY r_2) 0 false))] (cut_call (call_ofL (ws := []) (us := [([0], some (.arr (mY r_2) 0 false))]) (by kernel_rfl) (map_cons_ (lendX_of (fz := false) (es := List.map (D.int .u8) b_) (by kernel_rfl) (by kernel_rfl) rfl (by decide)) (map_cons_ rfl (map_cons_ rfl map_nil_))) (gives_cons (ws := []) (give_lref (fz := false) (es := List.map (D.int .u8) b_) (by kernel_rfl) rfl (by kernel_rfl) (by decide)) (gives_cons (ws := []) (give_same (by kernel_rfl)) (gives_cons (ws := []) (give_same (by kernel_rfl)) gives_nil))) hc_2 (backs_cons_ (ws := [([0], some (.arr (mY r_2) 0 false))]) (back_lref (f0 := false) (es0 := List.map (D.int .u8) b_) (by kernel_rfl) hn_1) (backs_cons_ (ws := []) (by kernel_rfl) (backs_cons_ (ws := []) (by kernel_rfl) backs_nil_))) (by kernel_rfl))) <| Rk <| Sq <| Ro <| Rc 2 [vi at_, vi at_] <| Rk <| Runs.ret <| kB_ret <| kS_ret ?_
      obtain rfl := sj h
      exact ⟨Out.ret_ne, (fin_ofL (rs := [.i at_]) (by kernel_rfl) (map_cons_ (lendP_of (fz := false) (es := List.map (D.int .u8) r_2) (by kernel_rfl) (by simp only [List.length_map, List.length_set, cpy_length] at * <;> omega : (mY b_).length = (mY r_2).length) (by decide)) (map_cons_ rfl (map_cons_ rfl (map_cons_ rfl (map_cons_ rfl map_nil_))))) (by kernel_rfl) (outs_d outs_nil) (gives_cons (give_lref (fz := false) (es := List.map (D.int .u8) r_2) (by kernel_rfl) (by simp only [List.length_map, List.length_set, cpy_length] at * <;> omega : (mY b_).length = (mY r_2).length) (by kernel_rfl) (by decide)) (gives_cons (give_same (by kernel_rfl)) (gives_cons (give_same (by kernel_rfl)) (gives_cons (give_same (by kernel_rfl)) (gives_cons (give_same (by kernel_rfl)) gives_nil))))))⟩
     | false =>
      replace h := ite_f hb_5 h
      refine Cf <| Sq <| Ro <| Rc 2 [vb (f_.Loc == 3), vb (f_.Loc == 3)] <| Rk ?_
      cases hb_6 : ((f_.Loc == 3) : Bool) with
      | true =>
       replace h := ite_t hb_6 h
       refine Ct <| Sq <| Ro <| Rc 3 [⟨.ref [0] 0 0 (mY b_).length 1, []⟩, vi at_, vw off_] ?_
       obtain ⟨r_3, hr_3, h⟩ := bind_s h
       have hc_3 := apply_add_L b_ at_ off_ r_3 hr_3
       have hn_2 := lim_len (F := tab1) (X := fun _ _ => none) hc_3 (show tab1 59 = some F59 from by kernel_rfl) rfl 0 rfl (by decide) rfl
       refine Rt (some 62) (.callf 59) [] none [.lref [0] 0 0 (mY b_).length 1, .i at_, .w off_] (.tup []) [([0], some (.arr (mY r_3) 0 false))] (cut_call (call_ofL (ws := []) (us := [([0], some (.arr (mY r_3) 0 false))]) (by kernel_rfl) (map_cons_ (lendX_of (fz := false) (es := List.map (D.int .u8) b_) (by kernel_rfl) (by kernel_rfl) rfl (by decide)) (map_cons_ rfl (map_cons_ rfl map_nil_))) (gives_cons (ws := []) (give_lref (fz := false) (es := List.map (D.int .u8) b_) (by kernel_rfl) rfl (by kernel_rfl) (by decide)) (gives_cons (ws := []) (give_same (by kernel_rfl)) (gives_cons (ws := []) (give_same (by kernel_rfl)) gives_nil))) hc_3 (backs_cons_ (ws := [([0], some (.arr (mY r_3) 0 false))]) (back_lref (f0 := false) (es0 := List.map (D.int .u8) b_) (by kernel_rfl) hn_2) (backs_cons_ (ws := []) (by kernel_rfl) (backs_cons_ (ws := []) (by kernel_rfl) backs_nil_))) (by kernel_rfl))) <| Rk <| Sq <| Ro <| Rc 4 [⟨.ref [0] 0 0 (mY b_).length 1, []⟩, vi at_, vi (IntKind.wrap .i64 (at_ + 2)), vw para_] ?_
       obtain ⟨r_4, hr_4, h⟩ := bind_s h
       have hc_4 := apply_add_L r_3 (IntKind.wrap .i64 (at_ + 2)) para_ r_4 hr_4
       have hn_3 := lim_len (F := tab1) (X := fun _ _ => none) hc_4 (show tab1 59 = some F59 from by kernel_rfl) rfl 0 rfl (by decide) rfl
       refine Rt (some 67) (.callf 59) [] none [.lref [0] 0 0 (mY b_).length 1, .i (IntKind.wrap .i64 (at_ + 2)), .w para_] (.tup []) [([0], some (.arr (mY r_4) 0 false))] (cut_call (call_ofL (ws := []) (us := [([0], some (.arr (mY r_4) 0 false))]) (by kernel_rfl) (map_cons_ (lendX_of (fz := false) (es := List.map (D.int .u8) r_3) (by kernel_rfl) (by kernel_rfl) (by simp only [List.length_map, List.length_set, cpy_length] at * <;> omega : (mY b_).length = (mY r_3).length) (by decide)) (map_cons_ rfl (map_cons_ rfl map_nil_))) (gives_cons (ws := []) (give_lref (fz := false) (es := List.map (D.int .u8) r_3) (by kernel_rfl) (by simp only [List.length_map, List.length_set, cpy_length] at * <;> omega : (mY b_).length = (mY r_3).length) (by kernel_rfl) (by decide)) (gives_cons (ws := []) (give_same (by kernel_rfl)) (gives_cons (ws := []) (give_same (by kernel_rfl)) gives_nil))) hc_4 (backs_cons_ (ws := [([0], some (.arr (mY r_4) 0 false))]) (back_lref (f0 := false) (es0 := List.map (D.int .u8) r_3) (by kernel_rfl) hn_3) (backs_cons_ (ws := []) (by kernel_rfl) (backs_cons_ (ws := []) (by kernel_rfl) backs_nil_))) (by kernel_rfl))) <| Rk <| Sq <| Ro <| Rc 3 [vi at_, vi (IntKind.wrap .i64 (at_ + 2)), vi (IntKind.wrap .i64 (at_ + 2))] <| Rk <| Runs.ret ?_
       refine kB_ret <| kS_ret ?_
       obtain rfl := sj h
       exact ⟨Out.ret_ne, (fin_ofL (rs := [.i (IntKind.wrap .i64 (at_ + 2))]) (by kernel_rfl) (map_cons_ (lendP_of (fz := false) (es := List.map (D.int .u8) r_4) (by kernel_rfl) (by simp only [List.length_map, List.length_set, cpy_length] at * <;> omega : (mY b_).length = (mY r_4).length) (by decide)) (map_cons_ rfl (map_cons_ rfl (map_cons_ rfl (map_cons_ rfl map_nil_))))) (by kernel_rfl) (outs_d outs_nil) (gives_cons (give_lref (fz := false) (es := List.map (D.int .u8) r_4) (by kernel_rfl) (by simp only [List.length_map, List.length_set, cpy_length] at * <;> omega : (mY b_).length = (mY r_4).length) (by kernel_rfl) (by decide)) (gives_cons (give_same (by kernel_rfl)) (gives_cons (give_same (by kernel_rfl)) (gives_cons (give_same (by kernel_rfl)) (gives_cons (give_same (by kernel_rfl)) gives_nil))))))⟩
      | false =>
       replace h := ite_f hb_6 h
       refine Cf <| Ro <| Rc 3 [⟨.ref [0] 0 0 (mY b_).length 1, []⟩, vi at_, vw off_] ?_
       obtain ⟨r_5, hr_5, h⟩ := bind_s h
       have hc_5 := apply_add_L b_ at_ off_ r_5 hr_5
       have hn_4 := lim_len (F := tab1) (X := fun _ _ => none) hc_5 (show tab1 59 = some F59 from by kernel_rfl) rfl 0 rfl (by decide) rfl
       refine Rt (some 28) (.callf 59) [] none [.lref [0] 0 0 (mY b_).length 1, .i at_, .w off_] (.tup []) [([0], some (.arr (mY r_5) 0 false))] (cut_call (call_ofL (ws := []) (us := [([0], some (.arr (mY r_5) 0 false))]) (by kernel_rfl) (map_cons_ (lendX_of (fz := false) (es := List.map (D.int .u8) b_) (by kernel_rfl) (by kernel_rfl) rfl (by decide)) (map_cons_ rfl (map_cons_ rfl map_nil_))) (gives_cons (ws := []) (give_lref (fz := false) (es := List.map (D.int .u8) b_) (by kernel_rfl) rfl (by kernel_rfl) (by decide)) (gives_cons (ws := []) (give_same (by kernel_rfl)) (gives_cons (ws := []) (give_same (by kernel_rfl)) gives_nil))) hc_5 (backs_cons_ (ws := [([0], some (.arr (mY r_5) 0 false))]) (back_lref (f0 := false) (es0 := List.map (D.int .u8) b_) (by kernel_rfl) hn_4) (backs_cons_ (ws := []) (by kernel_rfl) (backs_cons_ (ws := []) (by kernel_rfl) backs_nil_))) (by kernel_rfl))) <| Rd <| kB_nrm <| kS_nrm <| Sq <| Ro <| Rc 1 [vi (-1)] <| Rk <| Runs.ret ?_
       obtain rfl := sj h
       exact ⟨Out.ret_ne, (fin_ofL (rs := [.i (-1)]) (by kernel_rfl) (map_cons_ (lendP_of (fz := false) (es := List.map (D.int .u8) r_5) (by kernel_rfl) (by simp only [List.length_map, List.length_set, cpy_length] at * <;> omega : (mY b_).length = (mY r_5).length) (by decide)) (map_cons_ rfl (map_cons_ rfl (map_cons_ rfl (map_cons_ rfl map_nil_))))) (by kernel_rfl) (outs_d outs_nil) (gives_cons (give_lref (fz := false) (es := List.map (D.int .u8) r_5) (by kernel_rfl) (by simp only [List.length_map, List.length_set, cpy_length] at * <;> omega : (mY b_).length = (mY r_5).length) (by kernel_rfl) (by decide)) (gives_cons (give_same (by kernel_rfl)) (gives_cons (give_same (by kernel_rfl)) (gives_cons (give_same (by kernel_rfl)) (gives_cons (give_same (by kernel_rfl)) gives_nil))))))⟩
theorem apply_Put_L (b_ : (List Int)) (at_ : Int) (f_ : Fixup) (off_ : Int) (para_ : Int) (r : (Int × (List Int))) (h : apply_Put b_ at_ f_ off_ para_ = some r) : L 31 [.arr false 1 (mY b_), .i at_, .d (Fixup.d f_), .w off_, .w para_] = some (.i r.1, [.arr false 1 (mY r.2), .i at_, .d (Fixup.d f_), .w off_, .w para_]) := by
 obtain ⟨p, ⟨hne, hf⟩, hr⟩ := apply_Put_ok b_ at_ f_ off_ para_ r h
 obtain ⟨k, hk⟩ := run_of (F := F31) (args := [.arr false 1 (mY b_), .i at_, .d (Fixup.d f_), .w off_, .w para_]) (ap := [.ref [0] 0 0 (mY b_).length 1, .i at_, .d (Fixup.d f_), .w off_, .w para_]) (bx0 := updW (fun _ => none) [([0], some (.arr (mY b_) 0 false))]) rfl rfl (by kernel_rfl) ⟨p, ⟨hne, hf⟩, hr⟩
 exact lim_run (k := k) rfl hk
def hansomlaw42_word2_Q (b_ : (List Int)) (at_ : Int) (r : Int) (p : Out × St) : Prop := (∀ i, p.1 ≠ .exit i) ∧ finF F32 [.d (.sl (mY b_)), .i at_] p.2 = some (.w r, [.d (.sl (mY b_)), .i at_])
theorem hansomlaw42_word2_ok (b_ : (List Int)) (at_ : Int) (r : Int) (h : hansomlaw42_word2 b_ at_ = some r) : Runs L F32.body ⟨tmOf [.d (.sl (mY b_)), .i at_] 0, updW (fun _ => none) []⟩ (hansomlaw42_word2_Q b_ at_ r) := by
 unfold hansomlaw42_word2 at h
 refine Sq <| Ro <| Rc 1 [vw 0] <| Rk <| Sq <| Sq <| Ro <| Rc 3 [vi at_, vb (decide (at_ < 0)), vb (decide (at_ < 0))] ?_
 cases hb_1 : ((decide (at_ < 0)) : Bool) with
 | true =>
  replace h := ite_t hb_1 h
  refine Rc 6 [vn, vn, vn, vn, vn, vb true] <| Rk <| Ct <| Sq <| Ro <| Rc 1 [vw 0] <| Rk <| Runs.ret <| kS_ret ?_
  cases h
  exact Fq
 | false =>
  replace h := ite_f hb_1 h
  refine Rc 3 [vi at_, vi (IntKind.wrap .i64 (at_ + 1)), ⟨.d (.sl (mY b_)), []⟩] <| Rt (some 11) .lenL [] none [.d (.sl (mY b_))] (.i (b_.length : Int)) [] (cut_len _) <| Rc 2 [vb (decide ((IntKind.wrap .i64 (at_ + 1)) ≥ (b_.length : Int))), vb (decide ((IntKind.wrap .i64 (at_ + 1)) ≥ (b_.length : Int)))] <| Rk ?_
  cases hb_2 : ((decide ((IntKind.wrap .i64 (at_ + 1)) ≥ (b_.length : Int))) : Bool) with
  | true =>
   replace h := ite_t hb_2 h
   refine Ct <| Sq <| Ro <| Rc 1 [vw 0] <| Rk <| Runs.ret <| kS_ret ?_
   cases h
   exact Fq
  | false =>
   replace h := ite_f hb_2 h
   refine Cf <| Runs.skip <| kS_nrm <| Sq <| Ro <| Rc 2 [⟨.d (.sl (mY b_)), []⟩, vi at_] ?_
   obtain ⟨z_1, hz_1, h⟩ := bind_s h
   refine Rt (some 16) (.iaddrS 1) [] none [.d (.sl (mY b_)), .i at_] (.elt (.int .u8 z_1) 0) [] (cut_at hz_1 (fun _ => rfl)) <| Rc 5 [vy z_1, vw (IntKind.wrap .u16 z_1), ⟨.d (.sl (mY b_)), []⟩, vi at_, vi (IntKind.wrap .i64 (at_ + 1))] ?_
   obtain ⟨z_2, hz_2, h⟩ := bind_s h
   refine Rt (some 22) (.iaddrS 1) [] none [.d (.sl (mY b_)), .i (IntKind.wrap .i64 (at_ + 1))] (.elt (.int .u8 z_2) 0) [] (cut_at hz_2 (fun _ => rfl)) <| Rc 5 [vy z_2, vw (IntKind.wrap .u16 z_2), vw (IntKind.wrap .u16 (256 * (IntKind.wrap .u16 z_2))), vw (IntKind.wrap .u16 ((IntKind.wrap .u16 z_1) + (IntKind.wrap .u16 (256 * (IntKind.wrap .u16 z_2))))), vw (IntKind.wrap .u16 ((IntKind.wrap .u16 z_1) + (IntKind.wrap .u16 (256 * (IntKind.wrap .u16 z_2)))))] <| Rk <| Runs.ret ?_
   cases h
   exact Fq
theorem hansomlaw42_word2_L (b_ : (List Int)) (at_ : Int) (r : Int) (h : hansomlaw42_word2 b_ at_ = some r) : L 32 [.d (.sl (mY b_)), .i at_] = some (.w r, [.d (.sl (mY b_)), .i at_]) := by
 obtain ⟨p, ⟨hne, hf⟩, hr⟩ := hansomlaw42_word2_ok b_ at_ r h
 obtain ⟨k, hk⟩ := run_of (F := F32) (args := [.d (.sl (mY b_)), .i at_]) (ap := [.d (.sl (mY b_)), .i at_]) (bx0 := updW (fun _ => none) []) rfl rfl (by kernel_rfl) ⟨p, ⟨hne, hf⟩, hr⟩
 exact lim_run (k := k) rfl hk
def hansomlaw42_set_h7 (b_8 : (List Int)) (at1 : Int) (w2 : Int) (t19 : Bool) (v_8 : Nat) : St := ⟨tab [(1, .i at1), (2, .w w2), (7, .ref [8] v_8 0 (mY b_8).length 1), (19, .b t19)], tabB [([8], some (.arr (mY b_8) v_8 false))]⟩
def hansomlaw42_set_Q (b_ : (List Int)) (at_ : Int) (w_ : Int) (r : (List Int)) (p : Out × St) : Prop := (∀ i, p.1 ≠ .exit i) ∧ finF F33 [.d (.sl (mY b_)), .i at_, .w w_] p.2 = some (.arr false 1 (mY r), [.d (.sl (mY b_)), .i at_, .w w_])
theorem hansomlaw42_set_j7_ok (b_ : (List Int)) (at_ : Int) (w_ : Int) (b_8 : (List Int)) (at1 : Int) (w2 : Int) (t19 : Bool) (v_8 : Nat) (r : (List Int)) (h : hansomlaw42_set_j7 b_8 at1 w2 t19 = some r) : Runs L F33b7 (hansomlaw42_set_h7 b_8 at1 w2 t19 v_8) (kS L F33c10 (hansomlaw42_set_Q b_ at_ w_ r)) := by
 unfold hansomlaw42_set_j7 at h
 cases hb_2 : (t19 : Bool) with
 | true =>
  replace h := ite_t hb_2 h
  refine Ct <| Ro <| Rc 10 [⟨.ref [8] v_8 0 (mY b_8).length 1, []⟩, vi at1, ⟨.ref [8] v_8 0 (mY b_8).length 1, []⟩, vi at1, vi (IntKind.wrap .i64 (at1 + 1)), vw w2, vy (IntKind.wrap .u8 w2), vw w2, vw (shrI .u16 w2 8), vy (IntKind.wrap .u8 (shrI .u16 w2 8))] ?_
  obtain ⟨z_2, hz_2, h⟩ := bind_s h
  refine Rt (some 30) (.iaddrS 1) [] none [.ref [8] v_8 0 (mY b_8).length 1, .i at1] (.eref [8] v_8 (0 + (at1).toNat) 0) [] (cut_atR (e := (D.int .u8)) (l := b_8) hz_2 rfl) <| Rt none (.store 1) [] none [.eref [8] v_8 (0 + (at1).toNat) 0, .y (IntKind.wrap .u8 w2)] (.tup []) [([8], some (.arr (mY (List.set b_8 (at1).toNat (IntKind.wrap .u8 w2))) v_8 false))] (cut_setR (e := (D.int .u8)) (l := b_8) (y := z_2) (y' := (IntKind.wrap .u8 w2)) (ds := [.int .u8 (IntKind.wrap .u8 w2)]) (by kernel_rfl) hz_2 (by kernel_rfl) (by kernel_rfl) (by kernel_rfl) (by kernel_rfl)) ?_
  obtain ⟨z_3, hz_3, h⟩ := bind_s h
  refine Rt (some 31) (.iaddrS 1) [] none [.ref [8] v_8 0 (mY b_8).length 1, .i (IntKind.wrap .i64 (at1 + 1))] (.eref [8] v_8 (0 + ((IntKind.wrap .i64 (at1 + 1))).toNat) 0) [] (cut_atR (e := (D.int .u8)) (l := (List.set b_8 (at1).toNat (IntKind.wrap .u8 w2))) hz_3 (by simp only [List.length_map, List.length_set, cpy_length] : (mY b_8).length = (mY (List.set b_8 (at1).toNat (IntKind.wrap .u8 w2))).length)) <| Rt none (.store 1) [] none [.eref [8] v_8 (0 + ((IntKind.wrap .i64 (at1 + 1))).toNat) 0, .y (IntKind.wrap .u8 (shrI .u16 w2 8))] (.tup []) [([8], some (.arr (mY (List.set (List.set b_8 (at1).toNat (IntKind.wrap .u8 w2)) ((IntKind.wrap .i64 (at1 + 1))).toNat (IntKind.wrap .u8 (shrI .u16 w2 8)))) v_8 false))] (cut_setR (e := (D.int .u8)) (l := (List.set b_8 (at1).toNat (IntKind.wrap .u8 w2))) (y := z_3) (y' := (IntKind.wrap .u8 (shrI .u16 w2 8))) (ds := [.int .u8 (IntKind.wrap .u8 (shrI .u16 w2 8))]) (by kernel_rfl) hz_3 (by kernel_rfl) (by kernel_rfl) (by kernel_rfl) (by kernel_rfl)) <| Rk <| Sq <| Ro <| Rc 2 [⟨.ref [8] v_8 0 (mY b_8).length 1, []⟩, ⟨.ref [8] v_8 0 (mY b_8).length 1, []⟩] <| Rk <| Runs.ret ?_
  obtain rfl := sj h
  exact ⟨Out.ret_ne, (fin_of (rs := [.ref [8] v_8 0 (mY b_8).length 1]) (by kernel_rfl) (by kernel_rfl) (outs_own (id := [8]) (v := v_8) (fz := false) (es := List.map (D.int .u8) (List.set (List.set b_8 (at1).toNat (IntKind.wrap .u8 w2)) ((IntKind.wrap .i64 (at1 + 1))).toNat (IntKind.wrap .u8 (shrI .u16 w2 8)))) (by kernel_rfl) (by decide) (by simp only [List.length_map, List.length_set, cpy_length] : (mY b_8).length = (mY (List.set (List.set b_8 (at1).toNat (IntKind.wrap .u8 w2)) ((IntKind.wrap .i64 (at1 + 1))).toNat (IntKind.wrap .u8 (shrI .u16 w2 8)))).length) outs_nil) (gives_cons (give_same (by kernel_rfl)) (gives_cons (give_same (by kernel_rfl)) (gives_cons (give_same (by kernel_rfl)) gives_nil))))⟩
 | false =>
  replace h := ite_f hb_2 h
  refine Cf <| Runs.skip <| kS_nrm <| Sq <| Ro <| Rc 2 [⟨.ref [8] v_8 0 (mY b_8).length 1, []⟩, ⟨.ref [8] v_8 0 (mY b_8).length 1, []⟩] <| Rk <| Runs.ret ?_
  obtain rfl := sj h
  exact ⟨Out.ret_ne, (fin_of (rs := [.ref [8] v_8 0 (mY b_8).length 1]) (by kernel_rfl) (by kernel_rfl) (outs_own (id := [8]) (v := v_8) (fz := false) (es := List.map (D.int .u8) b_8) (by kernel_rfl) (by decide) rfl outs_nil) (gives_cons (give_same (by kernel_rfl)) (gives_cons (give_same (by kernel_rfl)) (gives_cons (give_same (by kernel_rfl)) gives_nil))))⟩
theorem hansomlaw42_set_ok (b_ : (List Int)) (at_ : Int) (w_ : Int) (r : (List Int)) (h : hansomlaw42_set b_ at_ w_ = some r) : Runs L F33.body ⟨tmOf [.d (.sl (mY b_)), .i at_, .w w_] 0, updW (fun _ => none) []⟩ (hansomlaw42_set_Q b_ at_ w_ r) := by
 unfold hansomlaw42_set at h
 refine Sq <| Ro <| Rc 1 [⟨.nils, []⟩] <| Rk <| Sq <| Ro <| Rc 2 [⟨.ref [8] 0 0 (mY ([] : List Int)).length 1, [([8], some (.arr (mY ([] : List Int)) 0 false))]⟩, ⟨.d (.sl (mY b_)), []⟩] ?_
 obtain ⟨z_1, hz_1, h⟩ := bind_s h
 refine Rt (some 10) (.append 1 1 false) [] none [.ref [8] 0 0 (mY ([] : List Int)).length 1, .d (.sl (mY b_))] (.ref [8] 1 0 (mY z_1).length 1) [([8], some (.arr (mY z_1) 1 false))] (cut_appR (e := (D.int .u8)) (l := ([] : List Int)) (fz := false) (ws := []) (ap_data _) (fun _ => rfl) hz_1 (by kernel_rfl) (by kernel_rfl) rfl) <| Rc 1 [⟨.ref [8] 1 0 (mY z_1).length 1, []⟩] <| Rk <| Sq <| Sq <| Ro <| Rc 3 [vi at_, vb (decide (at_ ≥ 0)), vb (decide (at_ ≥ 0))] ?_
 cases hb_1 : ((decide (at_ ≥ 0)) : Bool) with
 | true =>
  replace h := ite_t hb_1 h
  refine Rc 3 [vi at_, vi (IntKind.wrap .i64 (at_ + 1)), ⟨.ref [8] 1 0 (mY z_1).length 1, []⟩] <| Rt (some 17) .lenL [] none [.ref [8] 1 0 (mY z_1).length 1] (.i (z_1.length : Int)) [] (cut_lenR (e := (D.int .u8)) z_1 rfl) <| Rc 2 [vb (decide ((IntKind.wrap .i64 (at_ + 1)) < (z_1.length : Int))), vb (decide ((IntKind.wrap .i64 (at_ + 1)) < (z_1.length : Int)))] <| Rk <| Runs.canon (hansomlaw42_set_h7 z_1 at_ w_ (decide ((IntKind.wrap .i64 (at_ + 1)) < (z_1.length : Int))) 1) Cz ?_
  exact hansomlaw42_set_j7_ok b_ at_ w_ z_1 at_ w_ (decide ((IntKind.wrap .i64 (at_ + 1)) < (z_1.length : Int))) 1 r h
 | false =>
  replace h := ite_f hb_1 h
  refine Rc 6 [vn, vn, vn, vn, vn, vb false] <| Rk <| Runs.canon (hansomlaw42_set_h7 z_1 at_ w_ false 1) Cz ?_
  exact hansomlaw42_set_j7_ok b_ at_ w_ z_1 at_ w_ false 1 r h
theorem hansomlaw42_set_L (b_ : (List Int)) (at_ : Int) (w_ : Int) (r : (List Int)) (h : hansomlaw42_set b_ at_ w_ = some r) : L 33 [.d (.sl (mY b_)), .i at_, .w w_] = some (.arr false 1 (mY r), [.d (.sl (mY b_)), .i at_, .w w_]) := by
 obtain ⟨p, ⟨hne, hf⟩, hr⟩ := hansomlaw42_set_ok b_ at_ w_ r h
 obtain ⟨k, hk⟩ := run_of (F := F33) (args := [.d (.sl (mY b_)), .i at_, .w w_]) (ap := [.d (.sl (mY b_)), .i at_, .w w_]) (bx0 := updW (fun _ => none) []) rfl rfl (by kernel_rfl) ⟨p, ⟨hne, hf⟩, hr⟩
 exact lim_run (k := k) rfl hk
def hansomlaw42_ApplyPuts_h14 (x8 : Fixup) (b_18 : (List Int)) (off9 : Int) (para10 : Int) (at11 : Int) (v_18 : Nat) : St := ⟨tab [(7, .ref [18] v_18 0 (mY b_18).length 1), (8, .ptr [8] 0 0), (9, .w off9), (10, .w para10), (11, .i at11)], tabB [([8], some (.cells [.i x8.At, .i x8.Loc, .b x8.Self, .i x8.Frame, .i x8.FrameN, .i x8.Target, .i x8.N, .w x8.Disp] 0)), ([18], some (.arr (mY b_18) v_18 false))]⟩
def hansomlaw42_ApplyPuts_h16 (x8 : Fixup) (b_18 : (List Int)) (off9 : Int) (para10 : Int) (at11 : Int) (was12 : (List Int)) (v_18 : Nat) : St := ⟨tab [(7, .ref [18] v_18 0 (mY b_18).length 1), (8, .ptr [8] 0 0), (9, .w off9), (10, .w para10), (11, .i at11), (12, .d (.sl (mY was12)))], tabB [([8], some (.cells [.i x8.At, .i x8.Loc, .b x8.Self, .i x8.Frame, .i x8.FrameN, .i x8.Target, .i x8.N, .w x8.Disp] 0)), ([18], some (.arr (mY b_18) v_18 false))]⟩
def hansomlaw42_ApplyPuts_Q (b_ : (List Int)) (f_ : Fixup) (n_ : (A3 Int)) (r : Bool) (p : Out × St) : Prop := (∀ i, p.1 ≠ .exit i) ∧ finF F7 [.d (.sl (mY b_)), .d (Fixup.d f_), .d (.agg [.int .i64 n_.a0, .int .i64 n_.a1, .int .i64 n_.a2])] p.2 = some (.b r, [.d (.sl (mY b_)), .d (Fixup.d f_), .d (.agg [.int .i64 n_.a0, .int .i64 n_.a1, .int .i64 n_.a2])])
theorem hansomlaw42_ApplyPuts_j14_ok (b_ : (List Int)) (f_ : Fixup) (n_ : (A3 Int)) (x8 : Fixup) (b_18 : (List Int)) (off9 : Int) (para10 : Int) (at11 : Int) (v_18 : Nat) (r : Bool) (h : hansomlaw42_ApplyPuts_j14 x8 b_18 off9 para10 at11 = some r) : Runs L F7b14 (hansomlaw42_ApplyPuts_h14 x8 b_18 off9 para10 at11 v_18) (hansomlaw42_ApplyPuts_Q b_ f_ n_ r) := by
 unfold hansomlaw42_ApplyPuts_j14 at h
 refine Sq <| Ro <| Rc 2 [⟨.ref [44] 0 0 (mY ([] : List Int)).length 1, [([44], some (.arr (mY ([] : List Int)) 0 false))]⟩, ⟨.ref [18] v_18 0 (mY b_18).length 1, []⟩] ?_
 obtain ⟨z_3, hz_3, h⟩ := bind_s h
 refine Rt (some 46) (.append 1 1 false) [] none [.ref [44] 0 0 (mY ([] : List Int)).length 1, .ref [18] v_18 0 (mY b_18).length 1] (.ref [44] 1 0 (mY z_3).length 1) [([44], some (.arr (mY z_3) 1 false))] (cut_appR (e := (D.int .u8)) (l := ([] : List Int)) (fz := false) (ws := []) (ap_ref (e := (D.int .u8)) (l := b_18) (fz := false) (by kernel_rfl) (by kernel_rfl) rfl) (fun _ => rfl) hz_3 (by kernel_rfl) (by kernel_rfl) rfl) <| Rc 1 [⟨.ref [44] 1 0 (mY z_3).length 1, []⟩] <| Rk <| Runs.canon (hansomlaw42_ApplyPuts_h16 x8 b_18 off9 para10 at11 z_3 v_18) (Canon.cons (frz_ref (e := (D.int .u8)) (l := z_3) (id := [44]) (v := 1) (n := 1) (fz := false) (by kernel_rfl) (by kernel_rfl) rfl) Cz) <| Sq <| Ro <| Rc 5 [⟨.ref [18] v_18 0 (mY b_18).length 1, []⟩, vi at11, ⟨.d (Fixup.d x8), []⟩, vw off9, vw para10] ?_
 obtain ⟨r_2, hr_2, h⟩ := bind_s h
 have hc_2 := apply_Put_L b_18 at11 x8 off9 para10 r_2 hr_2
 have hn_1 := lim_len (F := tab1) (X := fun _ _ => none) hc_2 (show tab1 31 = some F31 from by kernel_rfl) rfl 0 rfl (by decide) rfl
 refine Rt (some 52) (.callf 31) [] none [.lref [18] v_18 0 (mY b_18).length 1, .i at11, .d (Fixup.d x8), .w off9, .w para10] (.i r_2.1) [([18], some (.arr (mY r_2.2) v_18 false))] (cut_call (call_ofL (ws := []) (us := [([18], some (.arr (mY r_2.2) v_18 false))]) (by kernel_rfl) (map_cons_ (lendX_of (fz := false) (es := List.map (D.int .u8) b_18) (by kernel_rfl) (by kernel_rfl) rfl (by decide)) (map_cons_ rfl (map_cons_ rfl (map_cons_ rfl (map_cons_ rfl map_nil_))))) (gives_cons (ws := []) (give_lref (fz := false) (es := List.map (D.int .u8) b_18) (by kernel_rfl) rfl (by kernel_rfl) (by decide)) (gives_cons (ws := []) (give_same (by kernel_rfl)) (gives_cons (ws := []) (give_same (by kernel_rfl)) (gives_cons (ws := []) (give_same (by kernel_rfl)) (gives_cons (ws := []) (give_same (by kernel_rfl)) gives_nil))))) hc_2 (backs_cons_ (ws := [([18], some (.arr (mY r_2.2) v_18 false))]) (back_lref (f0 := false) (es0 := List.map (D.int .u8) b_18) (by kernel_rfl) hn_1) (backs_cons_ (ws := []) (by kernel_rfl) (backs_cons_ (ws := []) (by kernel_rfl) (backs_cons_ (ws := []) (by kernel_rfl) (backs_cons_ (ws := []) (by kernel_rfl) backs_nil_))))) (by kernel_rfl))) <| Rc 1 [vi r_2.1] <| Rk <| Sq <| Ro <| Rc 2 [vp [8] 0 1, vi x8.Loc] ?_
 obtain ⟨r_3, hr_3, h⟩ := bind_s h
 have hc_3 := hansomref25_Size_L x8.Loc r_3 hr_3
 refine Rt (some 55) (.callf 30) [] none [.i x8.Loc] (.i r_3) [] (cc hc_3) <| Rc 1 [vi r_3] <| Rk <| Sq <| Sq <| Ro <| Rc 3 [vi at11, vb (decide (at11 < 0)), vb (decide (at11 < 0))] ?_
 cases hb_2 : ((decide (at11 < 0)) : Bool) with
 | true =>
  replace h := ite_t hb_2 h
  refine Rc 7 [vn, vn, vn, vn, vn, vn, vb true] <| Rk <| Ct <| Sq <| Ro ?_
  obtain ⟨r_4, hr_4, h⟩ := bind_s h
  have hc_4 := hansomlaw42_awake_L r_4 hr_4
  refine Rt (some 66) (.callf 29) [] none [] (.b r_4) [] (cc hc_4) <| Rc 1 [vb r_4] ?_
  cases hb_3 : (r_4 : Bool) with
  | true =>
   replace h := ite_t hb_3 h
   refine Rc 4 [vi r_2.1, vb (r_2.1 == (-1)), vb (r_2.1 == (-1)), vb (r_2.1 == (-1))] ?_
   cases hb_4 : ((r_2.1 == (-1)) : Bool) with
   | true =>
    replace h := ite_t hb_4 h
    refine Rc 1 [⟨.ref [18] v_18 0 (mY b_18).length 1, []⟩] <| Rt (some 73) .bytesStr [] none [.ref [18] v_18 0 (mY b_18).length 1] (.d (.str (b2s r_2.2))) [] (cut_bsR (l := r_2.2) (fz := false) (by kernel_rfl) (by kernel_rfl) (by simp only [List.length_map, List.length_set, cpy_length] at * <;> omega : (mY b_18).length = (mY r_2.2).length)) <| Rc 1 [⟨.d (.sl (mY z_3)), []⟩] <| Rt (some 75) .bytesStr [] none [.d (.sl (mY z_3))] (.d (.str (b2s z_3))) [] (cut_bs _) <| Rc 3 [vb ((b2s r_2.2) == (b2s z_3)), vb ((b2s r_2.2) == (b2s z_3)), vb ((b2s r_2.2) == (b2s z_3))] <| Rk <| Runs.ret <| kS_ret ?_
    cases h
    exact Fq
   | false =>
    replace h := ite_f hb_4 h
    refine Rc 7 [vn, vn, vn, vn, vn, vb false, vb false] <| Rk <| Runs.ret <| kS_ret ?_
    cases h
    exact Fq
  | false =>
   replace h := ite_f hb_3 h
   refine Rc 11 [vn, vn, vb false, vb false, vn, vn, vn, vn, vn, vb false, vb false] <| Rk <| Runs.ret <| kS_ret ?_
   cases h
   exact Fq
 | false =>
  replace h := ite_f hb_2 h
  refine Rc 2 [vi at11, ⟨.d (.sl (mY z_3)), []⟩] <| Rt (some 61) .lenL [] none [.d (.sl (mY z_3))] (.i (z_3.length : Int)) [] (cut_len _) <| Rc 4 [vi r_3, vi (IntKind.wrap .i64 ((z_3.length : Int) - r_3)), vb (decide (at11 > (IntKind.wrap .i64 ((z_3.length : Int) - r_3)))), vb (decide (at11 > (IntKind.wrap .i64 ((z_3.length : Int) - r_3))))] <| Rk ?_
  cases hb_5 : ((decide (at11 > (IntKind.wrap .i64 ((z_3.length : Int) - r_3)))) : Bool) with
  | true =>
   replace h := ite_t hb_5 h
   refine Ct <| Sq <| Ro ?_
   obtain ⟨r_5, hr_5, h⟩ := bind_s h
   have hc_5 := hansomlaw42_awake_L r_5 hr_5
   refine Rt (some 66) (.callf 29) [] none [] (.b r_5) [] (cc hc_5) <| Rc 1 [vb r_5] ?_
   cases hb_6 : (r_5 : Bool) with
   | true =>
    replace h := ite_t hb_6 h
    refine Rc 4 [vi r_2.1, vb (r_2.1 == (-1)), vb (r_2.1 == (-1)), vb (r_2.1 == (-1))] ?_
    cases hb_7 : ((r_2.1 == (-1)) : Bool) with
    | true =>
     replace h := ite_t hb_7 h
     refine Rc 1 [⟨.ref [18] v_18 0 (mY b_18).length 1, []⟩] <| Rt (some 73) .bytesStr [] none [.ref [18] v_18 0 (mY b_18).length 1] (.d (.str (b2s r_2.2))) [] (cut_bsR (l := r_2.2) (fz := false) (by kernel_rfl) (by kernel_rfl) (by simp only [List.length_map, List.length_set, cpy_length] at * <;> omega : (mY b_18).length = (mY r_2.2).length)) <| Rc 1 [⟨.d (.sl (mY z_3)), []⟩] <| Rt (some 75) .bytesStr [] none [.d (.sl (mY z_3))] (.d (.str (b2s z_3))) [] (cut_bs _) <| Rc 3 [vb ((b2s r_2.2) == (b2s z_3)), vb ((b2s r_2.2) == (b2s z_3)), vb ((b2s r_2.2) == (b2s z_3))] <| Rk <| Runs.ret <| kS_ret ?_
     cases h
     exact Fq
    | false =>
     replace h := ite_f hb_7 h
     refine Rc 7 [vn, vn, vn, vn, vn, vb false, vb false] <| Rk <| Runs.ret <| kS_ret ?_
     cases h
     exact Fq
   | false =>
    replace h := ite_f hb_6 h
    refine Rc 11 [vn, vn, vb false, vb false, vn, vn, vn, vn, vn, vb false, vb false] <| Rk <| Runs.ret <| kS_ret ?_
    cases h
    exact Fq
  | false =>
   replace h := ite_f hb_5 h
   refine Cf <| Runs.skip <| kS_nrm <| Sq <| Ro <| Rc 2 [⟨.d (.sl (mY z_3)), []⟩, vi at11] ?_
   obtain ⟨r_6, hr_6, h⟩ := bind_s h
   have hc_6 := hansomlaw42_word2_L z_3 at11 r_6 hr_6
   refine Rt (some 80) (.callf 32) [] none [.d (.sl (mY z_3)), .i at11] (.w r_6) [] (cc hc_6) <| Rc 1 [vw r_6] <| Rk <| Sq <| Ro <| Rc 2 [⟨.ref [81] 0 0 (mY ([] : List Int)).length 1, [([81], some (.arr (mY ([] : List Int)) 0 false))]⟩, ⟨.d (.sl (mY z_3)), []⟩] ?_
   obtain ⟨z_4, hz_4, h⟩ := bind_s h
   refine Rt (some 83) (.append 1 1 false) [] none [.ref [81] 0 0 (mY ([] : List Int)).length 1, .d (.sl (mY z_3))] (.ref [81] 1 0 (mY z_4).length 1) [([81], some (.arr (mY z_4) 1 false))] (cut_appR (e := (D.int .u8)) (l := ([] : List Int)) (fz := false) (ws := []) (ap_data _) (fun _ => rfl) hz_4 (by kernel_rfl) (by kernel_rfl) rfl) <| Rc 1 [⟨.ref [81] 1 0 (mY z_4).length 1, []⟩] <| Rk <| Sq <| Ro <| Rc 1 [vi (-1)] <| Rk <| Sq <| Sq <| Ro <| Rc 2 [vp [8] 0 1, vi x8.Loc] <| Rk <| Runs.block <| Sq <| Ro <| Rc 2 [vb (x8.Loc == 0), vb (x8.Loc == 0)] <| Rk ?_
   cases hb_8 : ((x8.Loc == 0) : Bool) with
   | true =>
    replace h := ite_t hb_8 h
    refine Ct <| Ro <| Rc 2 [⟨.ref [81] 1 0 (mY z_4).length 1, []⟩, vi at11] ?_
    obtain ⟨z_5, hz_5, h⟩ := bind_s h
    refine Rt (some 107) (.iaddrS 1) [] none [.ref [81] 1 0 (mY z_4).length 1, .i at11] (.eref [81] 1 (0 + (at11).toNat) 0) [] (cut_atR (e := (D.int .u8)) (l := z_4) hz_5 rfl) <| Rt (some 108) (.load none) [] none [.eref [81] 1 (0 + (at11).toNat) 0] (.y z_5) [] (cut_loadR (e := (D.int .u8)) (l := z_4) (fz := false) (y := z_5) (by kernel_rfl) hz_5 (by kernel_rfl) (by kernel_rfl)) <| Rc 3 [vw off9, vy (IntKind.wrap .u8 off9), vy (IntKind.wrap .u8 (z_5 + (IntKind.wrap .u8 off9)))] ?_
    obtain ⟨z_6, hz_6, h⟩ := bind_s h
    refine Rt (some 112) (.iaddrS 1) [] none [.ref [81] 1 0 (mY z_4).length 1, .i at11] (.eref [81] 1 (0 + (at11).toNat) 0) [] (cut_atR (e := (D.int .u8)) (l := z_4) hz_6 rfl) <| Rt none (.store 1) [] none [.eref [81] 1 (0 + (at11).toNat) 0, .y (IntKind.wrap .u8 (z_5 + (IntKind.wrap .u8 off9)))] (.tup []) [([81], some (.arr (mY (List.set z_4 (at11).toNat (IntKind.wrap .u8 (z_5 + (IntKind.wrap .u8 off9))))) 1 false))] (cut_setR (e := (D.int .u8)) (l := z_4) (y := z_6) (y' := (IntKind.wrap .u8 (z_5 + (IntKind.wrap .u8 off9)))) (ds := [.int .u8 (IntKind.wrap .u8 (z_5 + (IntKind.wrap .u8 off9)))]) (by kernel_rfl) hz_6 (by kernel_rfl) (by kernel_rfl) (by kernel_rfl) (by kernel_rfl)) <| Rd <| kB_nrm <| kS_nrm <| Sq <| Ro ?_
    obtain ⟨r_7, hr_7, h⟩ := bind_s h
    have hc_7 := hansomlaw42_awake_L r_7 hr_7
    refine Rt (some 141) (.callf 29) [] none [] (.b r_7) [] (cc hc_7) <| Rc 1 [vb r_7] ?_
    cases hb_9 : (r_7 : Bool) with
    | true =>
     replace h := ite_t hb_9 h
     refine Rc 5 [vi r_2.1, vi (-1), vb (r_2.1 == (-1)), vb (r_2.1 == (-1)), vb (r_2.1 == (-1))] ?_
     cases hb_10 : ((r_2.1 == (-1)) : Bool) with
     | true =>
      replace h := ite_t hb_10 h
      refine Rc 1 [⟨.ref [18] v_18 0 (mY b_18).length 1, []⟩] <| Rt (some 149) .bytesStr [] none [.ref [18] v_18 0 (mY b_18).length 1] (.d (.str (b2s r_2.2))) [] (cut_bsR (l := r_2.2) (fz := false) (by kernel_rfl) (by kernel_rfl) (by simp only [List.length_map, List.length_set, cpy_length] at * <;> omega : (mY b_18).length = (mY r_2.2).length)) <| Rc 1 [⟨.ref [81] 1 0 (mY z_4).length 1, []⟩] <| Rt (some 151) .bytesStr [] none [.ref [81] 1 0 (mY z_4).length 1] (.d (.str (b2s (List.set z_4 (at11).toNat (IntKind.wrap .u8 (z_5 + (IntKind.wrap .u8 off9))))))) [] (cut_bsR (l := (List.set z_4 (at11).toNat (IntKind.wrap .u8 (z_5 + (IntKind.wrap .u8 off9))))) (fz := false) (by kernel_rfl) (by kernel_rfl) (by simp only [List.length_map, List.length_set, cpy_length] : (mY z_4).length = (mY (List.set z_4 (at11).toNat (IntKind.wrap .u8 (z_5 + (IntKind.wrap .u8 off9))))).length)) <| Rc 3 [vb ((b2s r_2.2) == (b2s (List.set z_4 (at11).toNat (IntKind.wrap .u8 (z_5 + (IntKind.wrap .u8 off9)))))), vb ((b2s r_2.2) == (b2s (List.set z_4 (at11).toNat (IntKind.wrap .u8 (z_5 + (IntKind.wrap .u8 off9)))))), vb ((b2s r_2.2) == (b2s (List.set z_4 (at11).toNat (IntKind.wrap .u8 (z_5 + (IntKind.wrap .u8 off9))))))] <| Rk <| Runs.ret ?_
      cases h
      exact Fq
     | false =>
      replace h := ite_f hb_10 h
      refine Rc 7 [vn, vn, vn, vn, vn, vb false, vb false] <| Rk <| Runs.ret ?_
      cases h
      exact Fq
    | false =>
     replace h := ite_f hb_9 h
     refine Rc 12 [vn, vn, vn, vb false, vb false, vn, vn, vn, vn, vn, vb false, vb false] <| Rk <| Runs.ret ?_
     cases h
     exact Fq
   | false =>
    replace h := ite_f hb_8 h
    refine Cf <| Sq <| Ro <| Rc 2 [vb (x8.Loc == 4), vb (x8.Loc == 4)] <| Rk ?_
    cases hb_11 : ((x8.Loc == 4) : Bool) with
    | true =>
     replace h := ite_t hb_11 h
     refine Ct <| Ro <| Rc 2 [⟨.ref [81] 1 0 (mY z_4).length 1, []⟩, vi at11] ?_
     obtain ⟨z_7, hz_7, h⟩ := bind_s h
     refine Rt (some 117) (.iaddrS 1) [] none [.ref [81] 1 0 (mY z_4).length 1, .i at11] (.eref [81] 1 (0 + (at11).toNat) 0) [] (cut_atR (e := (D.int .u8)) (l := z_4) hz_7 rfl) <| Rt (some 118) (.load none) [] none [.eref [81] 1 (0 + (at11).toNat) 0] (.y z_7) [] (cut_loadR (e := (D.int .u8)) (l := z_4) (fz := false) (y := z_7) (by kernel_rfl) hz_7 (by kernel_rfl) (by kernel_rfl)) <| Rc 4 [vw off9, vw (IntKind.wrap .u16 (Int.tdiv off9 256)), vy (IntKind.wrap .u8 (IntKind.wrap .u16 (Int.tdiv off9 256))), vy (IntKind.wrap .u8 (z_7 + (IntKind.wrap .u8 (IntKind.wrap .u16 (Int.tdiv off9 256)))))] ?_
     obtain ⟨z_8, hz_8, h⟩ := bind_s h
     refine Rt (some 123) (.iaddrS 1) [] none [.ref [81] 1 0 (mY z_4).length 1, .i at11] (.eref [81] 1 (0 + (at11).toNat) 0) [] (cut_atR (e := (D.int .u8)) (l := z_4) hz_8 rfl) <| Rt none (.store 1) [] none [.eref [81] 1 (0 + (at11).toNat) 0, .y (IntKind.wrap .u8 (z_7 + (IntKind.wrap .u8 (IntKind.wrap .u16 (Int.tdiv off9 256)))))] (.tup []) [([81], some (.arr (mY (List.set z_4 (at11).toNat (IntKind.wrap .u8 (z_7 + (IntKind.wrap .u8 (IntKind.wrap .u16 (Int.tdiv off9 256))))))) 1 false))] (cut_setR (e := (D.int .u8)) (l := z_4) (y := z_8) (y' := (IntKind.wrap .u8 (z_7 + (IntKind.wrap .u8 (IntKind.wrap .u16 (Int.tdiv off9 256)))))) (ds := [.int .u8 (IntKind.wrap .u8 (z_7 + (IntKind.wrap .u8 (IntKind.wrap .u16 (Int.tdiv off9 256)))))]) (by kernel_rfl) hz_8 (by kernel_rfl) (by kernel_rfl) (by kernel_rfl) (by kernel_rfl)) <| Rd <| kB_nrm <| kS_nrm <| Sq <| Ro ?_
     obtain ⟨r_8, hr_8, h⟩ := bind_s h
     have hc_8 := hansomlaw42_awake_L r_8 hr_8
     refine Rt (some 141) (.callf 29) [] none [] (.b r_8) [] (cc hc_8) <| Rc 1 [vb r_8] ?_
     cases hb_12 : (r_8 : Bool) with
     | true =>
      replace h := ite_t hb_12 h
      refine Rc 5 [vi r_2.1, vi (-1), vb (r_2.1 == (-1)), vb (r_2.1 == (-1)), vb (r_2.1 == (-1))] ?_
      cases hb_13 : ((r_2.1 == (-1)) : Bool) with
      | true =>
       replace h := ite_t hb_13 h
       refine Rc 1 [⟨.ref [18] v_18 0 (mY b_18).length 1, []⟩] <| Rt (some 149) .bytesStr [] none [.ref [18] v_18 0 (mY b_18).length 1] (.d (.str (b2s r_2.2))) [] (cut_bsR (l := r_2.2) (fz := false) (by kernel_rfl) (by kernel_rfl) (by simp only [List.length_map, List.length_set, cpy_length] at * <;> omega : (mY b_18).length = (mY r_2.2).length)) <| Rc 1 [⟨.ref [81] 1 0 (mY z_4).length 1, []⟩] <| Rt (some 151) .bytesStr [] none [.ref [81] 1 0 (mY z_4).length 1] (.d (.str (b2s (List.set z_4 (at11).toNat (IntKind.wrap .u8 (z_7 + (IntKind.wrap .u8 (IntKind.wrap .u16 (Int.tdiv off9 256))))))))) [] (cut_bsR (l := (List.set z_4 (at11).toNat (IntKind.wrap .u8 (z_7 + (IntKind.wrap .u8 (IntKind.wrap .u16 (Int.tdiv off9 256))))))) (fz := false) (by kernel_rfl) (by kernel_rfl) (by simp only [List.length_map, List.length_set, cpy_length] : (mY z_4).length = (mY (List.set z_4 (at11).toNat (IntKind.wrap .u8 (z_7 + (IntKind.wrap .u8 (IntKind.wrap .u16 (Int.tdiv off9 256))))))).length)) <| Rc 3 [vb ((b2s r_2.2) == (b2s (List.set z_4 (at11).toNat (IntKind.wrap .u8 (z_7 + (IntKind.wrap .u8 (IntKind.wrap .u16 (Int.tdiv off9 256)))))))), vb ((b2s r_2.2) == (b2s (List.set z_4 (at11).toNat (IntKind.wrap .u8 (z_7 + (IntKind.wrap .u8 (IntKind.wrap .u16 (Int.tdiv off9 256)))))))), vb ((b2s r_2.2) == (b2s (List.set z_4 (at11).toNat (IntKind.wrap .u8 (z_7 + (IntKind.wrap .u8 (IntKind.wrap .u16 (Int.tdiv off9 256))))))))] ?_
       refine Rk <| Runs.ret ?_
       cases h
       exact Fq
      | false =>
       replace h := ite_f hb_13 h
       refine Rc 7 [vn, vn, vn, vn, vn, vb false, vb false] <| Rk <| Runs.ret ?_
       cases h
       exact Fq
     | false =>
      replace h := ite_f hb_12 h
      refine Rc 12 [vn, vn, vn, vb false, vb false, vn, vn, vn, vn, vn, vb false, vb false] <| Rk <| Runs.ret ?_
      cases h
      exact Fq
    | false =>
     replace h := ite_f hb_11 h
     refine Cf <| Sq <| Ro <| Rc 2 [vb (x8.Loc == 1), vb (x8.Loc == 1)] <| Rk ?_
     cases hb_14 : ((x8.Loc == 1) : Bool) with
     | true =>
      replace h := ite_t hb_14 h
      refine Ct <| Ro <| Rc 5 [⟨.ref [81] 1 0 (mY z_4).length 1, []⟩, vi at11, vw r_6, vw off9, vw (IntKind.wrap .u16 (r_6 + off9))] ?_
      obtain ⟨r_9, hr_9, h⟩ := bind_s h
      have hc_9 := hansomlaw42_set_L z_4 at11 (IntKind.wrap .u16 (r_6 + off9)) r_9 hr_9
      refine Rt (some 131) (.callf 33) [] none [.ref [81] 1 0 (mY z_4).length 1, .i at11, .w (IntKind.wrap .u16 (r_6 + off9))] (.ref [131] 0 0 (mY r_9).length 1) [([81], some (.arr (mY z_4) 1 true)), ([131], some (.arr (mY r_9) 0 false))] (cut_call (call_of (ws := [([81], some (.arr (mY z_4) 1 true))]) (us := [([81], some (.arr (mY z_4) 1 true))]) (by kernel_rfl) (gives_cons (ws := [([81], some (.arr (mY z_4) 1 true))]) (give_ref (e := (D.int .u8)) (l := z_4) (fz := false) (by kernel_rfl) (by kernel_rfl) rfl) (gives_cons (ws := []) (give_same (by kernel_rfl)) (gives_cons (ws := []) (give_same (by kernel_rfl)) gives_nil))) hc_9 (by kernel_rfl) (by kernel_rfl))) <| Rc 1 [⟨.ref [131] 0 0 (mY r_9).length 1, []⟩] <| Rd <| kB_nrm <| kS_nrm <| Sq <| Ro ?_
      obtain ⟨r_10, hr_10, h⟩ := bind_s h
      have hc_10 := hansomlaw42_awake_L r_10 hr_10
      refine Rt (some 141) (.callf 29) [] none [] (.b r_10) [] (cc hc_10) <| Rc 1 [vb r_10] ?_
      cases hb_15 : (r_10 : Bool) with
      | true =>
       replace h := ite_t hb_15 h
       refine Rc 5 [vi r_2.1, vi (-1), vb (r_2.1 == (-1)), vb (r_2.1 == (-1)), vb (r_2.1 == (-1))] ?_
       cases hb_16 : ((r_2.1 == (-1)) : Bool) with
       | true =>
        replace h := ite_t hb_16 h
        refine Rc 1 [⟨.ref [18] v_18 0 (mY b_18).length 1, []⟩] <| Rt (some 149) .bytesStr [] none [.ref [18] v_18 0 (mY b_18).length 1] (.d (.str (b2s r_2.2))) [] (cut_bsR (l := r_2.2) (fz := false) (by kernel_rfl) (by kernel_rfl) (by simp only [List.length_map, List.length_set, cpy_length] at * <;> omega : (mY b_18).length = (mY r_2.2).length)) <| Rc 1 [⟨.ref [131] 0 0 (mY r_9).length 1, []⟩] <| Rt (some 151) .bytesStr [] none [.ref [131] 0 0 (mY r_9).length 1] (.d (.str (b2s r_9))) [] (cut_bsR (l := r_9) (fz := false) (by kernel_rfl) (by kernel_rfl) rfl) <| Rc 3 [vb ((b2s r_2.2) == (b2s r_9)), vb ((b2s r_2.2) == (b2s r_9)), vb ((b2s r_2.2) == (b2s r_9))] <| Rk <| Runs.ret ?_
        cases h
        exact Fq
       | false =>
        replace h := ite_f hb_16 h
        refine Rc 7 [vn, vn, vn, vn, vn, vb false, vb false] <| Rk <| Runs.ret ?_
        cases h
        exact Fq
      | false =>
       replace h := ite_f hb_15 h
       refine Rc 12 [vn, vn, vn, vb false, vb false, vn, vn, vn, vn, vn, vb false, vb false] <| Rk <| Runs.ret ?_
       cases h
       exact Fq
     | false =>
      replace h := ite_f hb_14 h
      refine Cf <| Sq <| Ro <| Rc 2 [vb (x8.Loc == 2), vb (x8.Loc == 2)] <| Rk ?_
      cases hb_17 : ((x8.Loc == 2) : Bool) with
      | true =>
       replace h := ite_t hb_17 h
       refine Ct <| Sq <| Ro <| Rc 5 [⟨.ref [81] 1 0 (mY z_4).length 1, []⟩, vi at11, vw r_6, vw para10, vw (IntKind.wrap .u16 (r_6 + para10))] ?_
       obtain ⟨r_11, hr_11, h⟩ := bind_s h
       have hc_11 := hansomlaw42_set_L z_4 at11 (IntKind.wrap .u16 (r_6 + para10)) r_11 hr_11
       refine Rt (some 139) (.callf 33) [] none [.ref [81] 1 0 (mY z_4).length 1, .i at11, .w (IntKind.wrap .u16 (r_6 + para10))] (.ref [139] 0 0 (mY r_11).length 1) [([81], some (.arr (mY z_4) 1 true)), ([139], some (.arr (mY r_11) 0 false))] (cut_call (call_of (ws := [([81], some (.arr (mY z_4) 1 true))]) (us := [([81], some (.arr (mY z_4) 1 true))]) (by kernel_rfl) (gives_cons (ws := [([81], some (.arr (mY z_4) 1 true))]) (give_ref (e := (D.int .u8)) (l := z_4) (fz := false) (by kernel_rfl) (by kernel_rfl) rfl) (gives_cons (ws := []) (give_same (by kernel_rfl)) (gives_cons (ws := []) (give_same (by kernel_rfl)) gives_nil))) hc_11 (by kernel_rfl) (by kernel_rfl))) <| Rc 1 [⟨.ref [139] 0 0 (mY r_11).length 1, []⟩] <| Rk <| Ro <| Rc 2 [vi at11, vi at11] <| Rd <| kB_nrm <| kS_nrm <| Sq <| Ro ?_
       obtain ⟨r_12, hr_12, h⟩ := bind_s h
       have hc_12 := hansomlaw42_awake_L r_12 hr_12
       refine Rt (some 141) (.callf 29) [] none [] (.b r_12) [] (cc hc_12) <| Rc 1 [vb r_12] ?_
       cases hb_18 : (r_12 : Bool) with
       | true =>
        replace h := ite_t hb_18 h
        refine Rc 5 [vi r_2.1, vi at11, vb (r_2.1 == at11), vb (r_2.1 == at11), vb (r_2.1 == at11)] ?_
        cases hb_19 : ((r_2.1 == at11) : Bool) with
        | true =>
         replace h := ite_t hb_19 h
         refine Rc 1 [⟨.ref [18] v_18 0 (mY b_18).length 1, []⟩] <| Rt (some 149) .bytesStr [] none [.ref [18] v_18 0 (mY b_18).length 1] (.d (.str (b2s r_2.2))) [] (cut_bsR (l := r_2.2) (fz := false) (by kernel_rfl) (by kernel_rfl) (by simp only [List.length_map, List.length_set, cpy_length] at * <;> omega : (mY b_18).length = (mY r_2.2).length)) <| Rc 1 [⟨.ref [139] 0 0 (mY r_11).length 1, []⟩] <| Rt (some 151) .bytesStr [] none [.ref [139] 0 0 (mY r_11).length 1] (.d (.str (b2s r_11))) [] (cut_bsR (l := r_11) (fz := false) (by kernel_rfl) (by kernel_rfl) rfl) <| Rc 3 [vb ((b2s r_2.2) == (b2s r_11)), vb ((b2s r_2.2) == (b2s r_11)), vb ((b2s r_2.2) == (b2s r_11))] <| Rk <| Runs.ret ?_
         cases h
         exact Fq
        | false =>
         replace h := ite_f hb_19 h
         refine Rc 7 [vn, vn, vn, vn, vn, vb false, vb false] <| Rk <| Runs.ret ?_
         cases h
         exact Fq
       | false =>
        replace h := ite_f hb_18 h
        refine Rc 12 [vn, vn, vn, vb false, vb false, vn, vn, vn, vn, vn, vb false, vb false] <| Rk <| Runs.ret ?_
        cases h
        exact Fq
      | false =>
       replace h := ite_f hb_17 h
       refine Cf <| Sq <| Ro <| Rc 5 [⟨.ref [81] 1 0 (mY z_4).length 1, []⟩, vi at11, vw r_6, vw off9, vw (IntKind.wrap .u16 (r_6 + off9))] ?_
       obtain ⟨r_13, hr_13, h⟩ := bind_s h
       have hc_13 := hansomlaw42_set_L z_4 at11 (IntKind.wrap .u16 (r_6 + off9)) r_13 hr_13
       refine Rt (some 91) (.callf 33) [] none [.ref [81] 1 0 (mY z_4).length 1, .i at11, .w (IntKind.wrap .u16 (r_6 + off9))] (.ref [91] 0 0 (mY r_13).length 1) [([81], some (.arr (mY z_4) 1 true)), ([91], some (.arr (mY r_13) 0 false))] (cut_call (call_of (ws := [([81], some (.arr (mY z_4) 1 true))]) (us := [([81], some (.arr (mY z_4) 1 true))]) (by kernel_rfl) (gives_cons (ws := [([81], some (.arr (mY z_4) 1 true))]) (give_ref (e := (D.int .u8)) (l := z_4) (fz := false) (by kernel_rfl) (by kernel_rfl) rfl) (gives_cons (ws := []) (give_same (by kernel_rfl)) (gives_cons (ws := []) (give_same (by kernel_rfl)) gives_nil))) hc_13 (by kernel_rfl) (by kernel_rfl))) <| Rc 5 [vi at11, vi (IntKind.wrap .i64 (at11 + 2)), ⟨.d (.sl (mY z_3)), []⟩, vi at11, vi (IntKind.wrap .i64 (at11 + 2))] ?_
       obtain ⟨r_14, hr_14, h⟩ := bind_s h
       have hc_14 := hansomlaw42_word2_L z_3 (IntKind.wrap .i64 (at11 + 2)) r_14 hr_14
       refine Rt (some 97) (.callf 32) [] none [.d (.sl (mY z_3)), .i (IntKind.wrap .i64 (at11 + 2))] (.w r_14) [] (cc hc_14) <| Rc 2 [vw para10, vw (IntKind.wrap .u16 (r_14 + para10))] ?_
       obtain ⟨r_15, hr_15, h⟩ := bind_s h
       have hc_15 := hansomlaw42_set_L r_13 (IntKind.wrap .i64 (at11 + 2)) (IntKind.wrap .u16 (r_14 + para10)) r_15 hr_15
       refine Rt (some 100) (.callf 33) [] none [.ref [91] 0 0 (mY r_13).length 1, .i (IntKind.wrap .i64 (at11 + 2)), .w (IntKind.wrap .u16 (r_14 + para10))] (.ref [100] 0 0 (mY r_15).length 1) [([91], some (.arr (mY r_13) 0 true)), ([100], some (.arr (mY r_15) 0 false))] (cut_call (call_of (ws := [([91], some (.arr (mY r_13) 0 true))]) (us := [([91], some (.arr (mY r_13) 0 true))]) (by kernel_rfl) (gives_cons (ws := [([91], some (.arr (mY r_13) 0 true))]) (give_ref (e := (D.int .u8)) (l := r_13) (fz := false) (by kernel_rfl) (by kernel_rfl) rfl) (gives_cons (ws := []) (give_same (by kernel_rfl)) (gives_cons (ws := []) (give_same (by kernel_rfl)) gives_nil))) hc_15 (by kernel_rfl) (by kernel_rfl))) <| Rc 1 [⟨.ref [100] 0 0 (mY r_15).length 1, []⟩] <| Rk <| Ro <| Rc 3 [vi at11, vi (IntKind.wrap .i64 (at11 + 2)), vi (IntKind.wrap .i64 (at11 + 2))] <| Rd <| kB_nrm <| kS_nrm <| Sq <| Ro ?_
       obtain ⟨r_16, hr_16, h⟩ := bind_s h
       have hc_16 := hansomlaw42_awake_L r_16 hr_16
       refine Rt (some 141) (.callf 29) [] none [] (.b r_16) [] (cc hc_16) <| Rc 1 [vb r_16] ?_
       cases hb_20 : (r_16 : Bool) with
       | true =>
        replace h := ite_t hb_20 h
        refine Rc 5 [vi r_2.1, vi (IntKind.wrap .i64 (at11 + 2)), vb (r_2.1 == (IntKind.wrap .i64 (at11 + 2))), vb (r_2.1 == (IntKind.wrap .i64 (at11 + 2))), vb (r_2.1 == (IntKind.wrap .i64 (at11 + 2)))] ?_
        cases hb_21 : ((r_2.1 == (IntKind.wrap .i64 (at11 + 2))) : Bool) with
        | true =>
         replace h := ite_t hb_21 h
         refine Rc 1 [⟨.ref [18] v_18 0 (mY b_18).length 1, []⟩] <| Rt (some 149) .bytesStr [] none [.ref [18] v_18 0 (mY b_18).length 1] (.d (.str (b2s r_2.2))) [] (cut_bsR (l := r_2.2) (fz := false) (by kernel_rfl) (by kernel_rfl) (by simp only [List.length_map, List.length_set, cpy_length] at * <;> omega : (mY b_18).length = (mY r_2.2).length)) <| Rc 1 [⟨.ref [100] 0 0 (mY r_15).length 1, []⟩] <| Rt (some 151) .bytesStr [] none [.ref [100] 0 0 (mY r_15).length 1] (.d (.str (b2s r_15))) [] (cut_bsR (l := r_15) (fz := false) (by kernel_rfl) (by kernel_rfl) rfl) <| Rc 3 [vb ((b2s r_2.2) == (b2s r_15)), vb ((b2s r_2.2) == (b2s r_15)), vb ((b2s r_2.2) == (b2s r_15))] <| Rk <| Runs.ret ?_
         cases h
         exact Fq
        | false =>
         replace h := ite_f hb_21 h
         refine Rc 7 [vn, vn, vn, vn, vn, vb false, vb false] <| Rk <| Runs.ret ?_
         cases h
         exact Fq
       | false =>
        replace h := ite_f hb_20 h
        refine Rc 12 [vn, vn, vn, vb false, vb false, vn, vn, vn, vn, vn, vb false, vb false] <| Rk <| Runs.ret ?_
        cases h
        exact Fq
theorem hansomlaw42_ApplyPuts_ok (b_ : (List Int)) (f_ : Fixup) (n_ : (A3 Int)) (r : Bool) (h : hansomlaw42_ApplyPuts b_ f_ n_ = some r) : Runs L F7.body ⟨tmOf [.d (.sl (mY b_)), .d (Fixup.d f_), .d (.agg [.int .i64 n_.a0, .int .i64 n_.a1, .int .i64 n_.a2])] 0, updW (fun _ => none) []⟩ (hansomlaw42_ApplyPuts_Q b_ f_ n_ r) := by
 unfold hansomlaw42_ApplyPuts at h
 refine Sq <| Ro <| Rc 3 [⟨.ptr [4] 0 0, [([4], some (.cells [.i f_.At, .i f_.Loc, .b f_.Self, .i f_.Frame, .i f_.FrameN, .i f_.Target, .i f_.N, .w f_.Disp] 0))]⟩, ⟨.ptr [5] 0 0, [([5], some (.cells [.i n_.a0, .i n_.a1, .i n_.a2] 0))]⟩, vb false] <| Rk <| Sq <| Ro <| Rc 3 [⟨.ref [18] 0 0 (mY ([] : List Int)).length 1, [([18], some (.arr (mY ([] : List Int)) 0 false))]⟩, ⟨.d (.sl (mY b_)), []⟩, ⟨.d (.sl (mY b_)), []⟩] <| Rt (some 21) .lenL [] none [.d (.sl (mY b_))] (.i (b_.length : Int)) [] (cut_len _) <| Rc 1 [vi (mnI (b_.length : Int) 12)] ?_
 obtain ⟨z_1, hz_1, h⟩ := bind_s h
 refine Rt (some 23) (.subsl 1 false true false) [] none [.d (.sl (mY b_)), .i (mnI (b_.length : Int) 12)] (.d (.sl (mY z_1))) [] (cut_slFT hz_1 (fun _ => rfl)) ?_
 obtain ⟨z_2, hz_2, h⟩ := bind_s h
 refine Rt (some 24) (.append 1 1 false) [] none [.ref [18] 0 0 (mY ([] : List Int)).length 1, .d (.sl (mY z_1))] (.ref [18] 1 0 (mY z_2).length 1) [([18], some (.arr (mY z_2) 1 false))] (cut_appR (e := (D.int .u8)) (l := ([] : List Int)) (fz := false) (ws := []) (ap_data _) (fun _ => rfl) hz_2 (by kernel_rfl) (by kernel_rfl) rfl) <| Rc 1 [⟨.ref [18] 1 0 (mY z_2).length 1, []⟩] <| Rk <| Sq <| Ro <| Rc 2 [⟨.d (Fixup.d f_), []⟩, ⟨.d (.agg [.int .i64 5, .int .i64 5, .int .i64 5]), []⟩] ?_
 obtain ⟨r_1, hr_1, h⟩ := bind_s h
 have hc_1 := hansomref25_Near_L f_ 100 ({ a0 := 5, a1 := 5, a2 := 5 } : (A3 Int)) r_1 hr_1
 refine Rt (some 27) (.callf 27) [] none [.d (Fixup.d f_), .i 100, .d (.agg [.int .i64 5, .int .i64 5, .int .i64 5])] (.d (Fixup.d r_1)) [] (cc hc_1) <| Rc 2 [⟨.ptr [8] 0 0, [([8], some (.cells [.i 0, .i 0, .b false, .i 0, .i 0, .i 0, .i 0, .w 0] 0))]⟩, ⟨.tup [], [([8], some (.cells [.i r_1.At, .i r_1.Loc, .b r_1.Self, .i r_1.Frame, .i r_1.FrameN, .i r_1.Target, .i r_1.N, .w r_1.Disp] 0))]⟩] <| Rk <| Sq <| Ro <| Rc 13 [vp [5] 0 0, vi n_.a0, vw (IntKind.wrap .u16 n_.a0), vp [5] 0 1, vi n_.a1, vw (IntKind.wrap .u16 n_.a1), vp [5] 0 2, vi n_.a2, vi (bitsOp .and .i64 n_.a2 15), vi (IntKind.wrap .i64 ((bitsOp .and .i64 n_.a2 15) - 1)), vw (IntKind.wrap .u16 n_.a0), vw (IntKind.wrap .u16 n_.a1), vi (IntKind.wrap .i64 ((bitsOp .and .i64 n_.a2 15) - 1))] <| Rk <| Sq <| Sq <| Ro <| Rc 4 [vp [5] 0 2, vi n_.a2, vi (bitsOp .and .i64 n_.a2 16), vb (decide ((bitsOp .and .i64 n_.a2 16) > 0))] <| Rk ?_
 cases hb_1 : ((decide ((bitsOp .and .i64 n_.a2 16) > 0)) : Bool) with
 | true =>
  replace h := ite_t hb_1 h
  refine Ct <| Ro <| Rc 3 [vp [5] 0 2, vi n_.a2, vi n_.a2] <| Rk <| Runs.canon (hansomlaw42_ApplyPuts_h14 r_1 z_2 (IntKind.wrap .u16 n_.a0) (IntKind.wrap .u16 n_.a1) n_.a2 1) Cz ?_
  exact hansomlaw42_ApplyPuts_j14_ok b_ f_ n_ r_1 z_2 (IntKind.wrap .u16 n_.a0) (IntKind.wrap .u16 n_.a1) n_.a2 1 r h
 | false =>
  replace h := ite_f hb_1 h
  refine Cf <| Runs.skip <| kS_nrm <| Runs.canon (hansomlaw42_ApplyPuts_h14 r_1 z_2 (IntKind.wrap .u16 n_.a0) (IntKind.wrap .u16 n_.a1) (IntKind.wrap .i64 ((bitsOp .and .i64 n_.a2 15) - 1)) 1) Cz ?_
  exact hansomlaw42_ApplyPuts_j14_ok b_ f_ n_ r_1 z_2 (IntKind.wrap .u16 n_.a0) (IntKind.wrap .u16 n_.a1) (IntKind.wrap .i64 ((bitsOp .and .i64 n_.a2 15) - 1)) 1 r h
theorem hansomlaw42_ApplyPuts_L (b_ : (List Int)) (f_ : Fixup) (n_ : (A3 Int)) (r : Bool) (h : hansomlaw42_ApplyPuts b_ f_ n_ = some r) : L 7 [.d (.sl (mY b_)), .d (Fixup.d f_), .d (.agg [.int .i64 n_.a0, .int .i64 n_.a1, .int .i64 n_.a2])] = some (.b r, [.d (.sl (mY b_)), .d (Fixup.d f_), .d (.agg [.int .i64 n_.a0, .int .i64 n_.a1, .int .i64 n_.a2])]) := by
 obtain ⟨p, ⟨hne, hf⟩, hr⟩ := hansomlaw42_ApplyPuts_ok b_ f_ n_ r h
 obtain ⟨k, hk⟩ := run_of (F := F7) (args := [.d (.sl (mY b_)), .d (Fixup.d f_), .d (.agg [.int .i64 n_.a0, .int .i64 n_.a1, .int .i64 n_.a2])]) (ap := [.d (.sl (mY b_)), .d (Fixup.d f_), .d (.agg [.int .i64 n_.a0, .int .i64 n_.a1, .int .i64 n_.a2])]) (bx0 := updW (fun _ => none) []) rfl rfl (by kernel_rfl) ⟨p, ⟨hne, hf⟩, hr⟩
 exact lim_run (k := k) rfl hk
end Go.Es.App
