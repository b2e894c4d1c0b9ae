/- The interpreter answers as plain Lean does: part 2. No condition. -/
import Derived.Test.YtikbjljifgadmaaPlnF
import Derived.Test.YtikbjljifgadmaaPlnP
import Derived.KernelRfl
import Derived.Test.YtikbjljifgadmaaPlnS0
set_option linter.unusedVariables false
set_option linter.unusedSimpArgs false
set_option maxRecDepth 100000
set_option maxHeartbeats 4000000
namespace Go.Es.Pln
theorem pool_Twice_l22_ok (l_ : (List Module)) (seen3 : (List (List UInt8))) (t8 : (List Module)) (t9 : Int) (t10 : Int) (t15 : (List Pub)) (t16 : Int) (t17 : Int) (v_3 : Nat) (f_3 : Bool) (r : (Lp ((List (List UInt8)) × Int) (Bool ⊕ (List (List UInt8))))) (h : pool_Twice_l22 seen3 t8 t9 t10 t15 t16 t17 = some r) : Runs L F38l22 (pool_Twice_h22 seen3 t8 t9 t10 t15 t16 t17 v_3 f_3) (LQ [] [3, 8, 9, 10, 15, 16, 17] [[3]] (fun (x : ((List (List UInt8)) × Int)) (g : (Nat × Bool)) => pool_Twice_h22 x.1 t8 t9 t10 t15 t16 x.2 g.1 g.2) (pool_Twice_P22 l_ t8 t9 t10 t15 t16) r) := by
 unfold pool_Twice_l22 at h
 refine Sq <| Ro <| Rc 1 [vb (decide (t17 < t16))] <| Rk <| Sq ?_
 cases hb_2 : ((decide (t17 < t16)) : Bool) with
 | true =>
  replace h := ite_t hb_2 h
  refine Ct <| Runs.skip <| kS_nrm <| Sq <| Runs.block <| Sq <| Ro ?_
  obtain ⟨z_2, hz_2, h⟩ := bind_s h
  refine Rt (some 19) (.iaddrS 5) [] none [.d (.sl (List.map Pub.d t15)), .i t17] (.elt (Pub.d z_2) 0) [] (cut_at hz_2 (fun _ => rfl)) <| Rc 3 [⟨.d (Pub.d z_2), []⟩, ⟨.ptr [7] 0 0, [([7], some (.cells [.i 0, .i 0, .w 0, .d (.str []), .w 0] 0))]⟩, ⟨.tup [], [([7], some (.cells [.i z_2.Group, .i z_2.Seg, .w z_2.Frame, .d (.str z_2.Name), .w z_2.Off] 0))]⟩] <| Rk <| Sq <| Sq <| Ro <| Rc 3 [⟨.ref [3] v_3 0 (List.map D.str seen3).length 1, []⟩, vp [7] 0 3, ⟨.d (.str z_2.Name), []⟩] ?_
  obtain ⟨r_1, hr_1, h⟩ := bind_s h
  have hc_1 := slices_Contains_Lstring_L seen3 z_2.Name r_1 hr_1
  refine Rt (some 24) (.callf 80) [] none [.ref [3] v_3 0 (List.map D.str seen3).length 1, .d (.str z_2.Name)] (.b r_1) [([3], some (.arr (List.map D.str seen3) v_3 true))] (cut_call (call_of (ws := [([3], some (.arr (List.map D.str seen3) v_3 true))]) (us := [([3], some (.arr (List.map D.str seen3) v_3 true))]) (by kernel_rfl) (gives_cons (ws := [([3], some (.arr (List.map D.str seen3) v_3 true))]) (give_ref (e := D.str) (l := seen3) (fz := f_3) (by kernel_rfl) (by kernel_rfl) rfl) (gives_cons (ws := []) (give_same (by kernel_rfl)) gives_nil)) hc_1 (by kernel_rfl) (by kernel_rfl))) <| Rk ?_
  cases hb_3 : (r_1 : Bool) with
  | true =>
   replace h := ite_t hb_3 h
   refine Ct <| Sq <| Ro <| Rc 1 [vb true] <| Rk <| Runs.ret <| kS_ret <| kB_ret <| kS_ret ?_
   obtain rfl := sj h
   exact ⟨nofun, rfl, (by kernel_rfl)⟩
  | false =>
   replace h := ite_f hb_3 h
   refine Cf <| Runs.skip <| kS_nrm <| Ro <| Rc 4 [⟨.ref [3] v_3 0 (List.map D.str seen3).length 1, []⟩, vp [7] 0 3, ⟨.d (.str z_2.Name), []⟩, ⟨.ref [28] 0 0 (List.map D.str ([z_2.Name] : List (List UInt8))).length 1, [([28], some (.arr (List.map D.str ([z_2.Name] : List (List UInt8))) 0 false))]⟩] ?_
   obtain ⟨z_3, hz_3, h⟩ := bind_s h
   refine Rt (some 29) (.append 1 16 false) [] none [.ref [3] v_3 0 (List.map D.str seen3).length 1, .ref [28] 0 0 (List.map D.str ([z_2.Name] : List (List UInt8))).length 1] (.ref [3] (v_3 + 1) 0 (List.map D.str z_3).length 1) [([3], some (.arr (List.map D.str z_3) (v_3 + 1) true))] (cut_appR (e := D.str) (l := seen3) (fz := true) (ws := []) (ap_ref (e := D.str) (l := ([z_2.Name] : List (List UInt8))) (fz := false) (by kernel_rfl) (by kernel_rfl) rfl) (fun _ => rfl) hz_3 (by kernel_rfl) (by kernel_rfl) rfl) <| Rc 1 [⟨.ref [3] (v_3 + 1) 0 (List.map D.str z_3).length 1, []⟩] <| Rd <| kB_nrm <| kS_nrm <| Ro <| Rc 2 [vi (IntKind.wrap .i64 (t17 + 1)), vi (IntKind.wrap .i64 (t17 + 1))] <| Rd ?_
   obtain rfl := sj h
   exact ⟨rfl, ((v_3 + 1), true), Cz⟩
 | false =>
  replace h := ite_f hb_2 h
  refine Cf <| Runs.exit <| kS_exit ?_
  obtain rfl := sj h
  exact ⟨nofun, rfl, (v_3, f_3), Cz⟩
theorem pool_Twice_l8_ok (l_ : (List Module)) (seen3 : (List (List UInt8))) (t8 : (List Module)) (t9 : Int) (t10 : Int) (v_3 : Nat) (f_3 : Bool) (r : (Lp ((List (List UInt8)) × Int) (Bool ⊕ Unit))) (h : pool_Twice_l8 seen3 t8 t9 t10 = some r) : Runs L F38l8 (pool_Twice_h8 seen3 t8 t9 t10 v_3 f_3) (LQ [] [3, 8, 9, 10] [[3]] (fun (x : ((List (List UInt8)) × Int)) (g : (Nat × Bool)) => pool_Twice_h8 x.1 t8 t9 x.2 g.1 g.2) (pool_Twice_P8 l_ t8 t9) r) := by
 unfold pool_Twice_l8 at h
 refine Sq <| Ro <| Rc 1 [vb (decide (t10 < t9))] <| Rk <| Sq ?_
 cases hb_1 : ((decide (t10 < t9)) : Bool) with
 | true =>
  replace h := ite_t hb_1 h
  refine Ct <| Runs.skip <| kS_nrm <| Sq <| Runs.block <| Sq <| Ro ?_
  obtain ⟨z_1, hz_1, h⟩ := bind_s h
  refine Rt (some 12) (.iaddrS 18) [] none [.d (.sl (List.map Module.d t8)), .i t10] (.elt (Module.d z_1) 0) [] (cut_at hz_1 (fun _ => rfl)) <| Rc 3 [⟨.d (Module.d z_1), []⟩, ⟨.ptr [5] 0 0, [([5], some (.cells [.d (.str []), .nils, .nils, .nils, .nils, .nils, .nils, .nils, .b false, .b false, .i 0, .i 0, .b false, .i 0, .i 0, .i 0, .i 0, .w 0] 0))]⟩, ⟨.tup [], [([5], some (.cells [.d (.str z_1.Name), .d (.sl (List.map Comment.d z_1.Notes)), .d (.sl (List.map D.str z_1.Names)), .d (.sl (List.map SegDef.d z_1.Segs)), .d (.sl (List.map GrpDef.d z_1.Groups)), .d (.sl (List.map Ext.d z_1.Exts)), .d (.sl (List.map Pub.d z_1.Pubs)), .d (.sl (List.map Data.d z_1.Datas)), .b z_1.Main, .b z_1.Is, .i z_1.Start.At, .i z_1.Start.Loc, .b z_1.Start.Self, .i z_1.Start.Frame, .i z_1.Start.FrameN, .i z_1.Start.Target, .i z_1.Start.N, .w z_1.Start.Disp] 0))]⟩] <| Rk <| Sq <| Ro <| Rc 2 [vp [5] 0 6, ⟨.d (.sl (List.map Pub.d z_1.Pubs)), []⟩] <| Rt (some 16) .lenL [] none [.d (.sl (List.map Pub.d z_1.Pubs))] (.i (z_1.Pubs.length : Int)) [] (cut_len _) <| Rc 1 [vi 0] <| Rk <| Runs.block ?_
  obtain ⟨e_1, he_1, h⟩ := bind_s h
  refine Runs.loop (fun x : ((List (List UInt8)) × Int) => pool_Twice_l22 x.1 t8 t9 t10 z_1.Pubs (z_1.Pubs.length : Int) x.2) (fun (x : ((List (List UInt8)) × Int)) (g : (Nat × Bool)) => pool_Twice_h22 x.1 t8 t9 t10 z_1.Pubs (z_1.Pubs.length : Int) x.2 g.1 g.2) (pool_Twice_P22 l_ t8 t9 t10 z_1.Pubs (z_1.Pubs.length : Int)) (fun x g r hr => pool_Twice_l22_ok l_ x.1 t8 t9 t10 z_1.Pubs (z_1.Pubs.length : Int) x.2 g.1 g.2 r hr) (v_3, f_3) he_1 Cz ?_
  rintro ⟨o, s⟩ hp
  cases e_1 with
  | inl e_2 =>
   obtain ⟨ho, hf⟩ := hp
   have ho' : o = .ret := ho
   subst ho'
   refine kB_ret <| kB_ret <| kS_ret ?_
   obtain rfl := sj h
   exact ⟨nofun, rfl, hf⟩
  | inr e_3 =>
   obtain ⟨ho, g_1, hk_1⟩ := hp
   have ho' : o = .exit 2 := ho
   subst ho'
   refine kB_hit <| kB_nrm <| kS_nrm <| Runs.canon _ hk_1 <| Ro <| Rc 2 [vi (IntKind.wrap .i64 (t10 + 1)), vi (IntKind.wrap .i64 (t10 + 1))] <| Rd ?_
   obtain rfl := sj h
   exact ⟨rfl, (g_1.1, g_1.2), Cz⟩
 | false =>
  replace h := ite_f hb_1 h
  refine Cf <| Runs.exit <| kS_exit ?_
  obtain rfl := sj h
  exact ⟨nofun, rfl, (), Cz⟩
theorem pool_Twice_ok (l_ : (List Module)) (r : Bool) (h : pool_Twice l_ = some r) : Runs L F38.body ⟨tmOf [.d (.sl (List.map Module.d l_))] 0, updW (fun _ => none) []⟩ (pool_Twice_Q l_ r) := by
 unfold pool_Twice at h
 refine Sq <| Ro <| Rc 1 [vb false] <| Rk <| Sq <| Ro <| Rc 1 [⟨.nils, []⟩] <| Rk <| Runs.canon (pool_Twice_h4 ([] : List (List UInt8)) l_ 0) (Canon.cons (own_nil D.str (v := 0) (by kernel_rfl) (by kernel_rfl)) Cz) <| Sq <| Sq <| Ro <| Rc 1 [⟨.d (.sl (List.map Module.d l_)), []⟩] <| Rt (some 9) .lenL [] none [.d (.sl (List.map Module.d l_))] (.i (l_.length : Int)) [] (cut_len _) <| Rc 1 [vi 0] <| Rk <| Runs.block ?_
 obtain ⟨e_1, he_1, h⟩ := bind_s h
 refine Runs.loop (fun x : ((List (List UInt8)) × Int) => pool_Twice_l8 x.1 l_ (l_.length : Int) x.2) (fun (x : ((List (List UInt8)) × Int)) (g : (Nat × Bool)) => pool_Twice_h8 x.1 l_ (l_.length : Int) x.2 g.1 g.2) (pool_Twice_P8 l_ l_ (l_.length : Int)) (fun x g r hr => pool_Twice_l8_ok l_ x.1 l_ (l_.length : Int) x.2 g.1 g.2 r hr) (0, false) he_1 Cz ?_
 rintro ⟨o, s⟩ hp
 cases e_1 with
 | inl e_2 =>
  obtain ⟨ho, hf⟩ := hp
  have ho' : o = .ret := ho
  subst ho'
  refine kB_ret <| kS_ret ?_
  obtain rfl := sj h
  exact ⟨Out.ret_ne, hf⟩
 | inr e_3 =>
  obtain ⟨ho, g_1, hk_1⟩ := hp
  have ho' : o = .exit 0 := ho
  subst ho'
  refine kB_hit <| kS_nrm <| Runs.canon _ hk_1 <| Sq <| Ro <| Rc 1 [vb false] <| Rk <| Runs.ret ?_
  cases h
  exact Fq
theorem pool_Twice_L (l_ : (List Module)) (r : Bool) (h : pool_Twice l_ = some r) : L 38 [.d (.sl (List.map Module.d l_))] = some (.b r, [.d (.sl (List.map Module.d l_))]) := by
 obtain ⟨p, ⟨hne, hf⟩, hr⟩ := pool_Twice_ok l_ r h
 obtain ⟨k, hk⟩ := run_of (F := F38) (args := [.d (.sl (List.map Module.d l_))]) (ap := [.d (.sl (List.map Module.d l_))]) (bx0 := updW (fun _ => none) []) rfl rfl (by kernel_rfl) ⟨p, ⟨hne, hf⟩, hr⟩
 exact lim_run (k := k) rfl hk
def pool_Lost_1_Q (y_ : Ext) (a1_ : Ext) (r : Bool) (p : Out × St) : Prop := (∀ i, p.1 ≠ .exit i) ∧ finF F82 [.d (Ext.d y_), .ptr [1] 0 0] p.2 = some (.b r, [.d (Ext.d y_), .ptr [.d (.str a1_.Name), .i a1_.Com, .u a1_.Len]])
theorem pool_Lost_1_ok (y_ : Ext) (a1_ : Ext) (r : Bool) (h : pool_Lost_1 y_ a1_ = some r) : Runs L F82.body ⟨tmOf [.d (Ext.d y_), .ptr [1] 0 0] 0, updW (fun _ => none) [([1], some (.cells [.d (.str a1_.Name), .i a1_.Com, .u a1_.Len] 0))]⟩ (pool_Lost_1_Q y_ a1_ r) := by
 unfold pool_Lost_1 at h
 refine Sq <| Ro <| Rc 2 [⟨.ptr [2] 0 0, [([2], some (.cells [.d (.str y_.Name), .i y_.Com, .u y_.Len] 0))]⟩, vb false] <| Rk <| Sq <| Ro <| Rc 6 [vp [2] 0 0, ⟨.d (.str y_.Name), []⟩, vp [1] 0 0, ⟨.d (.str a1_.Name), []⟩, vb (y_.Name == a1_.Name), vb (y_.Name == a1_.Name)] <| Rk <| Runs.ret ?_
 cases h
 exact Fq
theorem pool_Lost_1_L (y_ : Ext) (a1_ : Ext) (r : Bool) (h : pool_Lost_1 y_ a1_ = some r) : L 82 [.d (Ext.d y_), .ptr [.d (.str a1_.Name), .i a1_.Com, .u a1_.Len]] = some (.b r, [.d (Ext.d y_), .ptr [.d (.str a1_.Name), .i a1_.Com, .u a1_.Len]]) := by
 obtain ⟨p, ⟨hne, hf⟩, hr⟩ := pool_Lost_1_ok y_ a1_ r h
 obtain ⟨k, hk⟩ := run_of (F := F82) (args := [.d (Ext.d y_), .ptr [.d (.str a1_.Name), .i a1_.Com, .u a1_.Len]]) (ap := [.d (Ext.d y_), .ptr [1] 0 0]) (bx0 := updW (fun _ => none) [([1], some (.cells [.d (.str a1_.Name), .i a1_.Com, .u a1_.Len] 0))]) rfl rfl (by kernel_rfl) ⟨p, ⟨hne, hf⟩, hr⟩
 exact lim_run (k := k) rfl hk
def slices_IndexFunc_LExt_pool_Lost_1_h6 (b_0_1 : Ext) (s_ : (List Ext)) (t7 : Int) (t8 : Int) : St := ⟨tab [(0, .ref [0] 0 0 (List.map Ext.d s_).length 3), (1, .fn 82 [.ptr [0, 1] 0 0]), (7, .i t7), (8, .i t8)], tabB [([0], some (.arr (List.map Ext.d s_) 0 false)), ([0, 1], some (.cells [.d (.str b_0_1.Name), .i b_0_1.Com, .u b_0_1.Len] 0))]⟩
def slices_IndexFunc_LExt_pool_Lost_1_h25 (b_0_1 : Ext) (s_ : (List Ext)) : St := ⟨tab [], tabB [([0], some (.arr (List.map Ext.d s_) 0 false)), ([0, 1], some (.cells [.d (.str b_0_1.Name), .i b_0_1.Com, .u b_0_1.Len] 0))]⟩
def slices_IndexFunc_LExt_pool_Lost_1_Q (s_ : (List Ext)) (a_1_0 : Ext) (r : (Int × Ext)) (p : Out × St) : Prop := (∀ i, p.1 ≠ .exit i) ∧ finF F78 [.ref [0] 0 0 (List.map Ext.d s_).length 3, .fn 82 [.ptr [0, 1] 0 0]] p.2 = some (.i r.1, [.arr false 3 (List.map Ext.d s_), .fn 82 [.ptr [.d (.str r.2.Name), .i r.2.Com, .u r.2.Len]]])
def slices_IndexFunc_LExt_pool_Lost_1_P6 (s_ : (List Ext)) (a_1_0 : Ext) (b_0_1 : Ext) (s_ : (List Ext)) (t7 : Int) (e : ((Int × Ext) ⊕ Unit)) (p : Out × St) : Prop := match e with
 | .inl x => p.1 = .ret ∧ finF F78 [.ref [0] 0 0 (List.map Ext.d s_).length 3, .fn 82 [.ptr [0, 1] 0 0]] p.2 = some (.i x.1, [.arr false 3 (List.map Ext.d s_), .fn 82 [.ptr [.d (.str x.2.Name), .i x.2.Com, .u x.2.Len]]])
 | .inr x => p.1 = .exit 0 ∧ ∃ g : Unit, Canon [] [] [[0], [0, 1]] p.2 (slices_IndexFunc_LExt_pool_Lost_1_h25 b_0_1 s_)
theorem slices_IndexFunc_LExt_pool_Lost_1_l6_ok (s_ : (List Ext)) (a_1_0 : Ext) (b_0_1 : Ext) (s_ : (List Ext)) (t7 : Int) (t8 : Int) (r : (Lp Int ((Int × Ext) ⊕ Unit))) (h : slices_IndexFunc_LExt_pool_Lost_1_l6 b_0_1 s_ t7 t8 = some r) : Runs L F78l6 (slices_IndexFunc_LExt_pool_Lost_1_h6 b_0_1 s_ t7 t8) (LQ [] [0, 1, 7, 8] [[0], [0, 1]] (fun (x : Int) (g : Unit) => slices_IndexFunc_LExt_pool_Lost_1_h6 b_0_1 s_ t7 x) (slices_IndexFunc_LExt_pool_Lost_1_P6 s_ a_1_0 b_0_1 s_ t7) r) := by
 unfold slices_IndexFunc_LExt_pool_Lost_1_l6 at h
 refine Sq <| Ro <| Rc 1 [vb (decide (t8 < t7))] <| Rk <| Sq ?_
 cases hb_1 : ((decide (t8 < t7)) : Bool) with
 | true =>
  replace h := ite_t hb_1 h
  refine Ct <| Runs.skip <| kS_nrm <| Sq <| Runs.block <| Sq <| Ro <| Rc 2 [vi t8, vi t8] <| Rk <| Sq <| Ro <| Rc 3 [⟨.fn 82 [.ptr [0, 1] 0 0], []⟩, ⟨.ref [0] 0 0 (List.map Ext.d s_).length 3, []⟩, vi t8] ?_
  obtain ⟨z_1, hz_1, h⟩ := bind_s h
  refine Rt (some 14) (.iaddrS 3) [] none [.ref [0] 0 0 (List.map Ext.d s_).length 3, .i t8] (.eref [0] 0 (0 + (t8).toNat) 0) [] (cut_atR (e := Ext.d) (l := s_) hz_1 rfl) <| Rt (some 15) (.load (some 3)) [] none [.eref [0] 0 (0 + (t8).toNat) 0] (.d (Ext.d z_1)) [] (cut_loadR (e := Ext.d) (l := s_) (fz := false) (y := z_1) (by kernel_rfl) hz_1 (by kernel_rfl) (by kernel_rfl)) ?_
  obtain ⟨r_1, hr_1, h⟩ := bind_s h
  have hc_1 := pool_Lost_1_L z_1 b_0_1 r_1 hr_1
  refine Rt (some 16) .callv [] none [.fn 82 [.ptr [0, 1] 0 0], .d (Ext.d z_1)] (.b r_1) [([0, 1], some (.cells [.d (.str b_0_1.Name), .i b_0_1.Com, .u b_0_1.Len] 0))] (cut_callv (call_of (ws := []) (us := [([0, 1], some (.cells [.d (.str b_0_1.Name), .i b_0_1.Com, .u b_0_1.Len] 0))]) (by kernel_rfl) (by kernel_rfl) hc_1 (by kernel_rfl) (by kernel_rfl))) <| Rk ?_
  cases hb_2 : (r_1 : Bool) with
  | true =>
   replace h := ite_t hb_2 h
   refine Ct <| Sq <| Ro <| Rc 2 [vi t8, vi t8] <| Rk <| Runs.ret <| kB_ret <| kS_ret ?_
   obtain rfl := sj h
   exact ⟨nofun, rfl, (fin_ofL (rs := [.i t8]) (by kernel_rfl) (map_cons_ (lendP_of (fz := false) (es := List.map Ext.d s_) (by kernel_rfl) rfl (by decide)) (map_cons_ rfl map_nil_)) (by kernel_rfl) (outs_d outs_nil) (gives_cons (give_lref (fz := false) (es := List.map Ext.d s_) (by kernel_rfl) rfl (by kernel_rfl) (by decide)) (gives_cons (give_same (by kernel_rfl)) gives_nil)))⟩
  | false =>
   replace h := ite_f hb_2 h
   refine Cf <| Runs.skip <| kB_nrm <| kS_nrm <| Ro <| Rc 2 [vi (IntKind.wrap .i64 (t8 + 1)), vi (IntKind.wrap .i64 (t8 + 1))] <| Rd ?_
   obtain rfl := sj h
   exact ⟨rfl, (), Cz⟩
 | false =>
  replace h := ite_f hb_1 h
  refine Cf <| Runs.exit <| kS_exit ?_
  obtain rfl := sj h
  exact ⟨nofun, rfl, (), Cz⟩
theorem slices_IndexFunc_LExt_pool_Lost_1_ok (s_ : (List Ext)) (a_1_0 : Ext) (r : (Int × Ext)) (h : slices_IndexFunc_LExt_pool_Lost_1 s_ a_1_0 = some r) : Runs L F78.body ⟨tmOf [.ref [0] 0 0 (List.map Ext.d s_).length 3, .fn 82 [.ptr [0, 1] 0 0]] 0, updW (fun _ => none) [([0], some (.arr (List.map Ext.d s_) 0 false)), ([0, 1], some (.cells [.d (.str a_1_0.Name), .i a_1_0.Com, .u a_1_0.Len] 0))]⟩ (slices_IndexFunc_LExt_pool_Lost_1_Q s_ a_1_0 r) := by
 unfold slices_IndexFunc_LExt_pool_Lost_1 at h
 refine Sq <| Ro <| Rc 1 [vi 0] <| Rk <| Sq <| Sq <| Ro <| Rc 1 [⟨.ref [0] 0 0 (List.map Ext.d s_).length 3, []⟩] <| Rt (some 7) .lenL [] none [.ref [0] 0 0 (List.map Ext.d s_).length 3] (.i (s_.length : Int)) [] (cut_lenR (e := Ext.d) s_ rfl) <| Rc 1 [vi 0] <| Rk <| Runs.block ?_
 obtain ⟨e_1, he_1, h⟩ := bind_s h
 refine Runs.loop (fun x : Int => slices_IndexFunc_LExt_pool_Lost_1_l6 a_1_0 s_ (s_.length : Int) x) (fun (x : Int) (g : Unit) => slices_IndexFunc_LExt_pool_Lost_1_h6 a_1_0 s_ (s_.length : Int) x) (slices_IndexFunc_LExt_pool_Lost_1_P6 s_ a_1_0 a_1_0 s_ (s_.length : Int)) (fun x g r hr => slices_IndexFunc_LExt_pool_Lost_1_l6_ok s_ a_1_0 a_1_0 s_ (s_.length : Int) x  r hr) () he_1 Cz ?_
 rintro ⟨o, s⟩ hp
 cases e_1 with
 | inl e_2 =>
  obtain ⟨ho, hf⟩ := hp
  have ho' : o = .ret := ho
  subst ho'
  refine kB_ret <| kS_ret ?_
  obtain rfl := sj h
  exact ⟨Out.ret_ne, hf⟩
 | inr e_3 =>
  obtain ⟨ho, g_1, hk_1⟩ := hp
  have ho' : o = .exit 0 := ho
  subst ho'
  refine kB_hit <| kS_nrm <| Runs.canon _ hk_1 <| Sq <| Ro <| Rc 1 [vi (-1)] <| Rk <| Runs.ret ?_
  obtain rfl := sj h
  exact ⟨Out.ret_ne, (fin_ofL (rs := [.i (-1)]) (by kernel_rfl) (map_cons_ (lendP_of (fz := false) (es := List.map Ext.d s_) (by kernel_rfl) rfl (by decide)) (map_cons_ rfl map_nil_)) (by kernel_rfl) (outs_d outs_nil) (gives_cons (give_lref (fz := false) (es := List.map Ext.d s_) (by kernel_rfl) rfl (by kernel_rfl) (by decide)) (gives_cons (give_same (by kernel_rfl)) gives_nil)))⟩
theorem slices_IndexFunc_LExt_pool_Lost_1_L (s_ : (List Ext)) (a_1_0 : Ext) (r : (Int × Ext)) (h : slices_IndexFunc_LExt_pool_Lost_1 s_ a_1_0 = some r) : L 78 [.arr false 3 (List.map Ext.d s_), .fn 82 [.ptr [.d (.str a_1_0.Name), .i a_1_0.Com, .u a_1_0.Len]]] = some (.i r.1, [.arr false 3 (List.map Ext.d s_), .fn 82 [.ptr [.d (.str r.2.Name), .i r.2.Com, .u r.2.Len]]]) := by
 obtain ⟨p, ⟨hne, hf⟩, hr⟩ := slices_IndexFunc_LExt_pool_Lost_1_ok s_ a_1_0 r h
 obtain ⟨k, hk⟩ := run_of (F := F78) (args := [.arr false 3 (List.map Ext.d s_), .fn 82 [.ptr [.d (.str a_1_0.Name), .i a_1_0.Com, .u a_1_0.Len]]]) (ap := [.ref [0] 0 0 (List.map Ext.d s_).length 3, .fn 82 [.ptr [0, 1] 0 0]]) (bx0 := updW (fun _ => none) [([0], some (.arr (List.map Ext.d s_) 0 false)), ([0, 1], some (.cells [.d (.str a_1_0.Name), .i a_1_0.Com, .u a_1_0.Len] 0))]) rfl rfl (by kernel_rfl) ⟨p, ⟨hne, hf⟩, hr⟩
 exact lim_run (k := k) rfl hk
def slices_ContainsFunc_LExt_pool_Lost_1_Q (s_ : (List Ext)) (a_1_0 : Ext) (r : (Bool × Ext)) (p : Out × St) : Prop := (∀ i, p.1 ≠ .exit i) ∧ finF F81 [.ref [0] 0 0 (List.map Ext.d s_).length 3, .fn 82 [.ptr [0, 1] 0 0]] p.2 = some (.b r.1, [.arr false 3 (List.map Ext.d s_), .fn 82 [.ptr [.d (.str r.2.Name), .i r.2.Com, .u r.2.Len]]])
theorem slices_ContainsFunc_LExt_pool_Lost_1_ok (s_ : (List Ext)) (a_1_0 : Ext) (r : (Bool × Ext)) (h : slices_ContainsFunc_LExt_pool_Lost_1 s_ a_1_0 = some r) : Runs L F81.body ⟨tmOf [.ref [0] 0 0 (List.map Ext.d s_).length 3, .fn 82 [.ptr [0, 1] 0 0]] 0, updW (fun _ => none) [([0], some (.arr (List.map Ext.d s_) 0 false)), ([0, 1], some (.cells [.d (.str a_1_0.Name), .i a_1_0.Com, .u a_1_0.Len] 0))]⟩ (slices_ContainsFunc_LExt_pool_Lost_1_Q s_ a_1_0 r) := by
 unfold slices_ContainsFunc_LExt_pool_Lost_1 at h
 refine Sq <| Ro <| Rc 1 [vb false] <| Rk <| Sq <| Ro <| Rc 2 [⟨.ref [0] 0 0 (List.map Ext.d s_).length 3, []⟩, ⟨.fn 82 [.ptr [0, 1] 0 0], []⟩] ?_
 obtain ⟨r_1, hr_1, h⟩ := bind_s h
 have hc_1 := slices_IndexFunc_LExt_pool_Lost_1_L s_ a_1_0 r_1 hr_1
 have hn_1 := lim_len (F := tab1) (X := fun _ _ => none) hc_1 (show tab1 78 = some F78 from by kernel_rfl) rfl 0 rfl (by decide) rfl
 refine Rt (some 7) (.callf 78) [] none [.lref [0] 0 0 (List.map Ext.d s_).length 3, .fn 82 [.ptr [0, 1] 0 0]] (.i r_1.1) [([0], some (.arr (List.map Ext.d s_) 0 false)), ([0, 1], some (.cells [.d (.str r_1.2.Name), .i r_1.2.Com, .u r_1.2.Len] 0))] (cut_call (call_ofL (ws := []) (us := [([0], some (.arr (List.map Ext.d s_) 0 false)), ([0, 1], some (.cells [.d (.str r_1.2.Name), .i r_1.2.Com, .u r_1.2.Len] 0))]) (by kernel_rfl) (map_cons_ (lendX_of (fz := false) (es := List.map Ext.d s_) (by kernel_rfl) (by kernel_rfl) rfl (by decide)) (map_cons_ rfl map_nil_)) (gives_cons (ws := []) (give_lref (fz := false) (es := List.map Ext.d s_) (by kernel_rfl) rfl (by kernel_rfl) (by decide)) (gives_cons (ws := []) (give_same (by kernel_rfl)) gives_nil)) hc_1 (backs_cons_ (ws := [([0], some (.arr (List.map Ext.d s_) 0 false))]) (back_lref (f0 := false) (es0 := List.map Ext.d s_) (by kernel_rfl) hn_1) (backs_cons_ (ws := [([0, 1], some (.cells [.d (.str r_1.2.Name), .i r_1.2.Com, .u r_1.2.Len] 0))]) (by kernel_rfl) backs_nil_)) (by kernel_rfl))) <| Rc 2 [vb (decide (r_1.1 ≥ 0)), vb (decide (r_1.1 ≥ 0))] <| Rk <| Runs.ret ?_
 obtain rfl := sj h
 exact ⟨Out.ret_ne, (fin_ofL (rs := [.b (decide (r_1.1 ≥ 0))]) (by kernel_rfl) (map_cons_ (lendP_of (fz := false) (es := List.map Ext.d s_) (by kernel_rfl) rfl (by decide)) (map_cons_ rfl map_nil_)) (by kernel_rfl) (outs_d outs_nil) (gives_cons (give_lref (fz := false) (es := List.map Ext.d s_) (by kernel_rfl) rfl (by kernel_rfl) (by decide)) (gives_cons (give_same (by kernel_rfl)) gives_nil)))⟩
theorem slices_ContainsFunc_LExt_pool_Lost_1_L (s_ : (List Ext)) (a_1_0 : Ext) (r : (Bool × Ext)) (h : slices_ContainsFunc_LExt_pool_Lost_1 s_ a_1_0 = some r) : L 81 [.arr false 3 (List.map Ext.d s_), .fn 82 [.ptr [.d (.str a_1_0.Name), .i a_1_0.Com, .u a_1_0.Len]]] = some (.b r.1, [.arr false 3 (List.map Ext.d s_), .fn 82 [.ptr [.d (.str r.2.Name), .i r.2.Com, .u r.2.Len]]]) := by
 obtain ⟨p, ⟨hne, hf⟩, hr⟩ := slices_ContainsFunc_LExt_pool_Lost_1_ok s_ a_1_0 r h
 obtain ⟨k, hk⟩ := run_of (F := F81) (args := [.arr false 3 (List.map Ext.d s_), .fn 82 [.ptr [.d (.str a_1_0.Name), .i a_1_0.Com, .u a_1_0.Len]]]) (ap := [.ref [0] 0 0 (List.map Ext.d s_).length 3, .fn 82 [.ptr [0, 1] 0 0]]) (bx0 := updW (fun _ => none) [([0], some (.arr (List.map Ext.d s_) 0 false)), ([0, 1], some (.cells [.d (.str a_1_0.Name), .i a_1_0.Com, .u a_1_0.Len] 0))]) rfl rfl (by kernel_rfl) ⟨p, ⟨hne, hf⟩, hr⟩
 exact lim_run (k := k) rfl hk
def pool_Lost_h4 (out3 : (List (List UInt8))) (l0 : (List Module)) (v_3 : Nat) : St := ⟨tab [(0, .d (.sl (List.map Module.d l0))), (3, .ref [3] v_3 0 (List.map D.str out3).length 1)], tabB [([3], some (.arr (List.map D.str out3) v_3 false))]⟩
def pool_Lost_h10 (out3 : (List (List UInt8))) (b_10 : (List Ext)) (l0 : (List Module)) (t11 : (List Module)) (t12 : Int) (t13 : Int) (v_3 : Nat) (v_10 : Nat) (f_3 : Bool) : St := ⟨tab [(0, .d (.sl (List.map Module.d l0))), (3, .ref [3] v_3 0 (List.map D.str out3).length 1), (4, .ref [10] v_10 0 (List.map Ext.d b_10).length 3), (11, .d (.sl (List.map Module.d t11))), (12, .i t12), (13, .i t13)], tabB [([3], some (.arr (List.map D.str out3) v_3 f_3)), ([10], some (.arr (List.map Ext.d b_10) v_10 false))]⟩
def pool_Lost_h24 (out3 : (List (List UInt8))) (b_10 : (List Ext)) (l0 : (List Module)) (t11 : (List Module)) (t12 : Int) (t13 : Int) (t18 : (List Ext)) (t19 : Int) (t20 : Int) (v_3 : Nat) (v_10 : Nat) (f_3 : Bool) : St := ⟨tab [(0, .d (.sl (List.map Module.d l0))), (3, .ref [3] v_3 0 (List.map D.str out3).length 1), (4, .ref [10] v_10 0 (List.map Ext.d b_10).length 3), (11, .d (.sl (List.map Module.d t11))), (12, .i t12), (13, .i t13), (18, .d (.sl (List.map Ext.d t18))), (19, .i t19), (20, .i t20)], tabB [([3], some (.arr (List.map D.str out3) v_3 f_3)), ([10], some (.arr (List.map Ext.d b_10) v_10 false))]⟩
def pool_Lost_h43 (out3 : (List (List UInt8))) (b_10 : (List Ext)) (l0 : (List Module)) (t11 : (List Module)) (t12 : Int) (t13 : Int) (v_3 : Nat) (v_10 : Nat) (f_3 : Bool) : St := ⟨tab [(0, .d (.sl (List.map Module.d l0))), (3, .ref [3] v_3 0 (List.map D.str out3).length 1), (4, .ref [10] v_10 0 (List.map Ext.d b_10).length 3), (11, .d (.sl (List.map Module.d t11))), (12, .i t12), (13, .i t13)], tabB [([3], some (.arr (List.map D.str out3) v_3 f_3)), ([10], some (.arr (List.map Ext.d b_10) v_10 false))]⟩
def pool_Lost_h44 (out3 : (List (List UInt8))) (v_3 : Nat) (f_3 : Bool) : St := ⟨tab [(3, .ref [3] v_3 0 (List.map D.str out3).length 1)], tabB [([3], some (.arr (List.map D.str out3) v_3 f_3))]⟩
def pool_Lost_Q (l_ : (List Module)) (r : (List (List UInt8))) (p : Out × St) : Prop := (∀ i, p.1 ≠ .exit i) ∧ finF F40 [.d (.sl (List.map Module.d l_))] p.2 = some (.d (.sl (List.map D.str r)), [.d (.sl (List.map Module.d l_))])
def pool_Lost_P24 (l_ : (List Module)) (b_10 : (List Ext)) (l0 : (List Module)) (t11 : (List Module)) (t12 : Int) (t13 : Int) (t18 : (List Ext)) (t19 : Int) (e : (List (List UInt8))) (p : Out × St) : Prop := p.1 = .exit 2 ∧ ∃ g : (Nat × Nat × Bool), Canon [] [0, 3, 4, 11, 12, 13] [[3], [10]] p.2 (pool_Lost_h43 e b_10 l0 t11 t12 t13 g.1 g.2.1 g.2.2)
def pool_Lost_P10 (l_ : (List Module)) (b_10 : (List Ext)) (l0 : (List Module)) (t11 : (List Module)) (t12 : Int) (e : (List (List UInt8))) (p : Out × St) : Prop := p.1 = .exit 0 ∧ ∃ g : (Nat × Bool), Canon [] [3] [[3]] p.2 (pool_Lost_h44 e g.1 g.2)
theorem pool_Lost_l24_ok (l_ : (List Module)) (out3 : (List (List UInt8))) (b_10 : (List Ext)) (l0 : (List Module)) (t11 : (List Module)) (t12 : Int) (t13 : Int) (t18 : (List Ext)) (t19 : Int) (t20 : Int) (v_3 : Nat) (v_10 : Nat) (f_3 : Bool) (r : (Lp ((List (List UInt8)) × Int) (List (List UInt8)))) (h : pool_Lost_l24 out3 b_10 l0 t11 t12 t13 t18 t19 t20 = some r) : Runs L F40l24 (pool_Lost_h24 out3 b_10 l0 t11 t12 t13 t18 t19 t20 v_3 v_10 f_3) (LQ [] [0, 3, 4, 11, 12, 13, 18, 19, 20] [[3], [10]] (fun (x : ((List (List UInt8)) × Int)) (g : (Nat × Nat × Bool)) => pool_Lost_h24 x.1 b_10 l0 t11 t12 t13 t18 t19 x.2 g.1 g.2.1 g.2.2) (pool_Lost_P24 l_ b_10 l0 t11 t12 t13 t18 t19) r) := by
 unfold pool_Lost_l24 at h
 refine Sq <| Ro <| Rc 1 [vb (decide (t20 < t19))] <| Rk <| Sq ?_
 cases hb_2 : ((decide (t20 < t19)) : Bool) with
 | true =>
  replace h := ite_t hb_2 h
  refine Ct <| Runs.skip <| kS_nrm <| Sq <| Runs.block <| Sq <| Ro ?_
  obtain ⟨z_2, hz_2, h⟩ := bind_s h
  refine Rt (some 22) (.iaddrS 3) [] none [.d (.sl (List.map Ext.d t18)), .i t20] (.elt (Ext.d z_2) 0) [] (cut_at hz_2 (fun _ => rfl)) <| Rc 3 [⟨.d (Ext.d z_2), []⟩, ⟨.ptr [8] 0 0, [([8], some (.cells [.d (.str []), .i 0, .u 0] 0))]⟩, ⟨.tup [], [([8], some (.cells [.d (.str z_2.Name), .i z_2.Com, .u z_2.Len] 0))]⟩] <| Rk <| Sq <| Sq <| Ro <| Rc 3 [⟨.d (.sl (List.map Module.d l0)), []⟩, vp [8] 0 0, ⟨.d (.str z_2.Name), []⟩] ?_
  obtain ⟨r_2, hr_2, h⟩ := bind_s h
  have hc_2 := pool_given_L l0 z_2.Name r_2 hr_2
  refine Rt (some 27) (.callf 77) [] none [.d (.sl (List.map Module.d l0)), .d (.str z_2.Name)] (.i r_2) [] (cc hc_2) <| Rc 2 [vb (decide (r_2 ≥ 0)), vb (decide (r_2 ≥ 0))] ?_
  cases hb_3 : ((decide (r_2 ≥ 0)) : Bool) with
  | true =>
   replace h := ite_t hb_3 h
   refine Rc 10 [vn, vn, vn, vn, vb true, vb true, vn, vn, vn, vb true] <| Rk <| Ct <| Runs.exit <| kS_exit <| kB_hit <| kS_nrm <| Ro <| Rc 2 [vi (IntKind.wrap .i64 (t20 + 1)), vi (IntKind.wrap .i64 (t20 + 1))] <| Rd ?_
   obtain rfl := sj h
   exact ⟨rfl, (v_3, v_10, f_3), Cz⟩
  | false =>
   replace h := ite_f hb_3 h
   refine Rc 3 [⟨.ref [3] v_3 0 (List.map D.str out3).length 1, []⟩, vp [8] 0 0, ⟨.d (.str z_2.Name), []⟩] ?_
   obtain ⟨r_3, hr_3, h⟩ := bind_s h
   have hc_3 := slices_Contains_Lstring_L out3 z_2.Name r_3 hr_3
   refine Rt (some 33) (.callf 80) [] none [.ref [3] v_3 0 (List.map D.str out3).length 1, .d (.str z_2.Name)] (.b r_3) [([3], some (.arr (List.map D.str out3) v_3 true))] (cut_call (call_of (ws := [([3], some (.arr (List.map D.str out3) v_3 true))]) (us := [([3], some (.arr (List.map D.str out3) v_3 true))]) (by kernel_rfl) (gives_cons (ws := [([3], some (.arr (List.map D.str out3) v_3 true))]) (give_ref (e := D.str) (l := out3) (fz := f_3) (by kernel_rfl) (by kernel_rfl) rfl) (gives_cons (ws := []) (give_same (by kernel_rfl)) gives_nil)) hc_3 (by kernel_rfl) (by kernel_rfl))) <| Rc 2 [vb r_3, vb r_3] ?_
   cases hb_4 : (r_3 : Bool) with
   | true =>
    replace h := ite_t hb_4 h
    refine Rc 4 [vn, vn, vn, vb true] <| Rk <| Ct <| Runs.exit <| kS_exit <| kB_hit <| kS_nrm <| Ro <| Rc 2 [vi (IntKind.wrap .i64 (t20 + 1)), vi (IntKind.wrap .i64 (t20 + 1))] <| Rd ?_
    obtain rfl := sj h
    exact ⟨rfl, (v_3, v_10, true), Cz⟩
   | false =>
    replace h := ite_f hb_4 h
    refine Rc 2 [⟨.ref [10] v_10 0 (List.map Ext.d b_10).length 3, []⟩, ⟨.fn 82 [.ptr [8] 0 0], []⟩] ?_
    obtain ⟨r_4, hr_4, h⟩ := bind_s h
    have hc_4 := slices_ContainsFunc_LExt_pool_Lost_1_L b_10 z_2 r_4 hr_4
    have hn_1 := lim_len (F := tab1) (X := fun _ _ => none) hc_4 (show tab1 81 = some F81 from by kernel_rfl) rfl 0 rfl (by decide) rfl
    refine Rt (some 38) (.callf 81) [] none [.lref [10] v_10 0 (List.map Ext.d b_10).length 3, .fn 82 [.ptr [8] 0 0]] (.b r_4.1) [([10], some (.arr (List.map Ext.d b_10) v_10 false)), ([8], some (.cells [.d (.str r_4.2.Name), .i r_4.2.Com, .u r_4.2.Len] 0))] (cut_call (call_ofL (ws := []) (us := [([10], some (.arr (List.map Ext.d b_10) v_10 false)), ([8], some (.cells [.d (.str r_4.2.Name), .i r_4.2.Com, .u r_4.2.Len] 0))]) (by kernel_rfl) (map_cons_ (lendX_of (fz := false) (es := List.map Ext.d b_10) (by kernel_rfl) (by kernel_rfl) rfl (by decide)) (map_cons_ rfl map_nil_)) (gives_cons (ws := []) (give_lref (fz := false) (es := List.map Ext.d b_10) (by kernel_rfl) rfl (by kernel_rfl) (by decide)) (gives_cons (ws := []) (give_same (by kernel_rfl)) gives_nil)) hc_4 (backs_cons_ (ws := [([10], some (.arr (List.map Ext.d b_10) v_10 false))]) (back_lref (f0 := false) (es0 := List.map Ext.d b_10) (by kernel_rfl) hn_1) (backs_cons_ (ws := [([8], some (.cells [.d (.str r_4.2.Name), .i r_4.2.Com, .u r_4.2.Len] 0))]) (by kernel_rfl) backs_nil_)) (by kernel_rfl))) <| Rc 1 [vb r_4.1] <| Rk ?_
    cases hb_5 : (r_4.1 : Bool) with
    | true =>
     replace h := ite_t hb_5 h
     refine Ct <| Runs.exit <| kS_exit <| kB_hit <| kS_nrm <| Ro <| Rc 2 [vi (IntKind.wrap .i64 (t20 + 1)), vi (IntKind.wrap .i64 (t20 + 1))] <| Rd ?_
     obtain rfl := sj h
     exact ⟨rfl, (v_3, v_10, true), Cz⟩
    | false =>
     replace h := ite_f hb_5 h
     refine Cf <| Runs.skip <| kS_nrm <| Ro <| Rc 4 [⟨.ref [3] v_3 0 (List.map D.str out3).length 1, []⟩, vp [8] 0 0, ⟨.d (.str r_4.2.Name), []⟩, ⟨.ref [43] 0 0 (List.map D.str ([r_4.2.Name] : List (List UInt8))).length 1, [([43], some (.arr (List.map D.str ([r_4.2.Name] : List (List UInt8))) 0 false))]⟩] ?_
     obtain ⟨z_3, hz_3, h⟩ := bind_s h
     refine Rt (some 44) (.append 1 16 false) [] none [.ref [3] v_3 0 (List.map D.str out3).length 1, .ref [43] 0 0 (List.map D.str ([r_4.2.Name] : List (List UInt8))).length 1] (.ref [3] (v_3 + 1) 0 (List.map D.str z_3).length 1) [([3], some (.arr (List.map D.str z_3) (v_3 + 1) true))] (cut_appR (e := D.str) (l := out3) (fz := true) (ws := []) (ap_ref (e := D.str) (l := ([r_4.2.Name] : List (List UInt8))) (fz := false) (by kernel_rfl) (by kernel_rfl) rfl) (fun _ => rfl) hz_3 (by kernel_rfl) (by kernel_rfl) rfl) <| Rc 1 [⟨.ref [3] (v_3 + 1) 0 (List.map D.str z_3).length 1, []⟩] <| Rd <| kB_nrm <| kS_nrm <| Ro <| Rc 2 [vi (IntKind.wrap .i64 (t20 + 1)), vi (IntKind.wrap .i64 (t20 + 1))] <| Rd ?_
     obtain rfl := sj h
     exact ⟨rfl, ((v_3 + 1), v_10, true), Cz⟩
 | false =>
  replace h := ite_f hb_2 h
  refine Cf <| Runs.exit <| kS_exit ?_
  obtain rfl := sj h
  exact ⟨nofun, rfl, (v_3, v_10, f_3), Cz⟩
theorem pool_Lost_l10_ok (l_ : (List Module)) (out3 : (List (List UInt8))) (b_10 : (List Ext)) (l0 : (List Module)) (t11 : (List Module)) (t12 : Int) (t13 : Int) (v_3 : Nat) (v_10 : Nat) (f_3 : Bool) (r : (Lp ((List (List UInt8)) × Int) (List (List UInt8)))) (h : pool_Lost_l10 out3 b_10 l0 t11 t12 t13 = some r) : Runs L F40l10 (pool_Lost_h10 out3 b_10 l0 t11 t12 t13 v_3 v_10 f_3) (LQ [] [0, 3, 4, 11, 12, 13] [[3], [10]] (fun (x : ((List (List UInt8)) × Int)) (g : (Nat × Nat × Bool)) => pool_Lost_h10 x.1 b_10 l0 t11 t12 x.2 g.1 g.2.1 g.2.2) (pool_Lost_P10 l_ b_10 l0 t11 t12) r) := by
 unfold pool_Lost_l10 at h
 refine Sq <| Ro <| Rc 1 [vb (decide (t13 < t12))] <| Rk <| Sq ?_
 cases hb_1 : ((decide (t13 < t12)) : Bool) with
 | true =>
  replace h := ite_t hb_1 h
  refine Ct <| Runs.skip <| kS_nrm <| Sq <| Runs.block <| Sq <| Ro ?_
  obtain ⟨z_1, hz_1, h⟩ := bind_s h
  refine Rt (some 15) (.iaddrS 18) [] none [.d (.sl (List.map Module.d t11)), .i t13] (.elt (Module.d z_1) 0) [] (cut_at hz_1 (fun _ => rfl)) <| Rc 3 [⟨.d (Module.d z_1), []⟩, ⟨.ptr [6] 0 0, [([6], some (.cells [.d (.str []), .nils, .nils, .nils, .nils, .nils, .nils, .nils, .b false, .b false, .i 0, .i 0, .b false, .i 0, .i 0, .i 0, .i 0, .w 0] 0))]⟩, ⟨.tup [], [([6], some (.cells [.d (.str z_1.Name), .d (.sl (List.map Comment.d z_1.Notes)), .d (.sl (List.map D.str z_1.Names)), .d (.sl (List.map SegDef.d z_1.Segs)), .d (.sl (List.map GrpDef.d z_1.Groups)), .d (.sl (List.map Ext.d z_1.Exts)), .d (.sl (List.map Pub.d z_1.Pubs)), .d (.sl (List.map Data.d z_1.Datas)), .b z_1.Main, .b z_1.Is, .i z_1.Start.At, .i z_1.Start.Loc, .b z_1.Start.Self, .i z_1.Start.Frame, .i z_1.Start.FrameN, .i z_1.Start.Target, .i z_1.Start.N, .w z_1.Start.Disp] 0))]⟩] <| Rk <| Sq <| Ro <| Rc 2 [vp [6] 0 5, ⟨.d (.sl (List.map Ext.d z_1.Exts)), []⟩] <| Rt (some 19) .lenL [] none [.d (.sl (List.map Ext.d z_1.Exts))] (.i (z_1.Exts.length : Int)) [] (cut_len _) <| Rc 1 [vi 0] <| Rk <| Runs.block ?_
  obtain ⟨e_1, he_1, h⟩ := bind_s h
  refine Runs.loop (fun x : ((List (List UInt8)) × Int) => pool_Lost_l24 x.1 b_10 l0 t11 t12 t13 z_1.Exts (z_1.Exts.length : Int) x.2) (fun (x : ((List (List UInt8)) × Int)) (g : (Nat × Nat × Bool)) => pool_Lost_h24 x.1 b_10 l0 t11 t12 t13 z_1.Exts (z_1.Exts.length : Int) x.2 g.1 g.2.1 g.2.2) (pool_Lost_P24 l_ b_10 l0 t11 t12 t13 z_1.Exts (z_1.Exts.length : Int)) (fun x g r hr => pool_Lost_l24_ok l_ x.1 b_10 l0 t11 t12 t13 z_1.Exts (z_1.Exts.length : Int) x.2 g.1 g.2.1 g.2.2 r hr) (v_3, v_10, f_3) he_1 Cz ?_
  rintro ⟨o, s⟩ hp
  obtain ⟨ho, g_1, hk_1⟩ := hp
  have ho' : o = .exit 2 := ho
  subst ho'
  refine kB_hit <| kB_nrm <| kS_nrm <| Runs.canon _ hk_1 <| Ro <| Rc 2 [vi (IntKind.wrap .i64 (t13 + 1)), vi (IntKind.wrap .i64 (t13 + 1))] <| Rd ?_
  obtain rfl := sj h
  exact ⟨rfl, (g_1.1, g_1.2.1, g_1.2.2), Cz⟩
 | false =>
  replace h := ite_f hb_1 h
  refine Cf <| Runs.exit <| kS_exit ?_
  obtain rfl := sj h
  exact ⟨nofun, rfl, (v_3, f_3), Cz⟩
theorem pool_Lost_ok (l_ : (List Module)) (r : (List (List UInt8))) (h : pool_Lost l_ = some r) : Runs L F40.body ⟨tmOf [.d (.sl (List.map Module.d l_))] 0, updW (fun _ => none) []⟩ (pool_Lost_Q l_ r) := by
 unfold pool_Lost at h
 refine Sq <| Ro <| Rc 1 [⟨.nils, []⟩] <| Rk <| Sq <| Ro <| Rc 1 [⟨.nils, []⟩] <| Rk <| Runs.canon (pool_Lost_h4 ([] : List (List UInt8)) l_ 0) (Canon.cons (own_nil D.str (v := 0) (by kernel_rfl) (by kernel_rfl)) Cz) <| Sq <| Ro <| Rc 1 [⟨.d (.sl (List.map Module.d l_)), []⟩] ?_
 obtain ⟨r_1, hr_1, h⟩ := bind_s h
 have hc_1 := pool_Made_L l_ r_1 hr_1
 refine Rt (some 10) (.callf 37) [] none [.d (.sl (List.map Module.d l_))] (.ref [10] 0 0 (List.map Ext.d r_1).length 3) [([10], some (.arr (List.map Ext.d r_1) 0 false))] (cut_call (call_of (ws := []) (us := []) (by kernel_rfl) (gives_cons (ws := []) (give_same (by kernel_rfl)) gives_nil) hc_1 (by kernel_rfl) (by kernel_rfl))) <| Rc 1 [⟨.ref [10] 0 0 (List.map Ext.d r_1).length 3, []⟩] <| Rk <| Sq <| Sq <| Ro <| Rc 1 [⟨.d (.sl (List.map Module.d l_)), []⟩] <| Rt (some 12) .lenL [] none [.d (.sl (List.map Module.d l_))] (.i (l_.length : Int)) [] (cut_len _) <| Rc 1 [vi 0] <| Rk <| Runs.block ?_
 obtain ⟨e_1, he_1, h⟩ := bind_s h
 refine Runs.loop (fun x : ((List (List UInt8)) × Int) => pool_Lost_l10 x.1 r_1 l_ l_ (l_.length : Int) x.2) (fun (x : ((List (List UInt8)) × Int)) (g : (Nat × Nat × Bool)) => pool_Lost_h10 x.1 r_1 l_ l_ (l_.length : Int) x.2 g.1 g.2.1 g.2.2) (pool_Lost_P10 l_ r_1 l_ l_ (l_.length : Int)) (fun x g r hr => pool_Lost_l10_ok l_ x.1 r_1 l_ l_ (l_.length : Int) x.2 g.1 g.2.1 g.2.2 r hr) (0, 0, false) he_1 Cz ?_
 rintro ⟨o, s⟩ hp
 obtain ⟨ho, g_1, hk_1⟩ := hp
 have ho' : o = .exit 0 := ho
 subst ho'
 refine kB_hit <| kS_nrm <| Runs.canon _ hk_1 <| Sq <| Ro <| Rc 2 [⟨.ref [3] g_1.1 0 (List.map D.str e_1).length 1, []⟩, ⟨.ref [3] g_1.1 0 (List.map D.str e_1).length 1, []⟩] <| Rk <| Sq <| Runs.gcons (frz_ref (e := D.str) (l := e_1) (id := [3]) (v := g_1.1) (n := 1) (fz := g_1.2) (by kernel_rfl) (by kernel_rfl) rfl) <| Runs.gnil <| kS_nrm <| Runs.ret ?_
 cases h
 exact Fq
theorem pool_Lost_L (l_ : (List Module)) (r : (List (List UInt8))) (h : pool_Lost l_ = some r) : L 40 [.d (.sl (List.map Module.d l_))] = some (.d (.sl (List.map D.str r)), [.d (.sl (List.map Module.d l_))]) := by
 obtain ⟨p, ⟨hne, hf⟩, hr⟩ := pool_Lost_ok l_ r h
 obtain ⟨k, hk⟩ := run_of (F := F40) (args := [.d (.sl (List.map Module.d l_))]) (ap := [.d (.sl (List.map Module.d l_))]) (bx0 := updW (fun _ => none) []) rfl rfl (by kernel_rfl) ⟨p, ⟨hne, hf⟩, hr⟩
 exact lim_run (k := k) rfl hk
def pool_Find_1_Q (p_ : Pub) (a1_ : (List UInt8)) (r : Bool) (p : Out × St) : Prop := (∀ i, p.1 ≠ .exit i) ∧ finF F84 [.d (Pub.d p_), .ptr [1] 0 0] p.2 = some (.b r, [.d (Pub.d p_), .ptr [.d (.str a1_)]])
theorem pool_Find_1_ok (p_ : Pub) (a1_ : (List UInt8)) (r : Bool) (h : pool_Find_1 p_ a1_ = some r) : Runs L F84.body ⟨tmOf [.d (Pub.d p_), .ptr [1] 0 0] 0, updW (fun _ => none) [([1], some (.cells [.d (.str a1_)] 0))]⟩ (pool_Find_1_Q p_ a1_ r) := by
 unfold pool_Find_1 at h
 refine Sq <| Ro <| Rc 2 [⟨.ptr [2] 0 0, [([2], some (.cells [.i p_.Group, .i p_.Seg, .w p_.Frame, .d (.str p_.Name), .w p_.Off] 0))]⟩, vb false] <| Rk <| Sq <| Ro <| Rc 5 [vp [2] 0 3, ⟨.d (.str p_.Name), []⟩, ⟨.d (.str a1_), []⟩, vb (p_.Name == a1_), vb (p_.Name == a1_)] <| Rk <| Runs.ret ?_
 cases h
 exact Fq
theorem pool_Find_1_L (p_ : Pub) (a1_ : (List UInt8)) (r : Bool) (h : pool_Find_1 p_ a1_ = some r) : L 84 [.d (Pub.d p_), .ptr [.d (.str a1_)]] = some (.b r, [.d (Pub.d p_), .ptr [.d (.str a1_)]]) := by
 obtain ⟨p, ⟨hne, hf⟩, hr⟩ := pool_Find_1_ok p_ a1_ r h
 obtain ⟨k, hk⟩ := run_of (F := F84) (args := [.d (Pub.d p_), .ptr [.d (.str a1_)]]) (ap := [.d (Pub.d p_), .ptr [1] 0 0]) (bx0 := updW (fun _ => none) [([1], some (.cells [.d (.str a1_)] 0))]) rfl rfl (by kernel_rfl) ⟨p, ⟨hne, hf⟩, hr⟩
 exact lim_run (k := k) rfl hk
def slices_IndexFunc_LPub_pool_Find_1_h6 (b_0_1 : (List UInt8)) (s0 : (List Pub)) (t7 : Int) (t8 : Int) : St := ⟨tab [(0, .d (.sl (List.map Pub.d s0))), (1, .fn 84 [.ptr [0, 1] 0 0]), (7, .i t7), (8, .i t8)], tabB [([0, 1], some (.cells [.d (.str b_0_1)] 0))]⟩
def slices_IndexFunc_LPub_pool_Find_1_h25 (b_0_1 : (List UInt8)) : St := ⟨tab [], tabB [([0, 1], some (.cells [.d (.str b_0_1)] 0))]⟩
def slices_IndexFunc_LPub_pool_Find_1_Q (s_ : (List Pub)) (a_1_0 : (List UInt8)) (r : (Int × (List UInt8))) (p : Out × St) : Prop := (∀ i, p.1 ≠ .exit i) ∧ finF F83 [.d (.sl (List.map Pub.d s_)), .fn 84 [.ptr [0, 1] 0 0]] p.2 = some (.i r.1, [.d (.sl (List.map Pub.d s_)), .fn 84 [.ptr [.d (.str r.2)]]])
def slices_IndexFunc_LPub_pool_Find_1_P6 (s_ : (List Pub)) (a_1_0 : (List UInt8)) (b_0_1 : (List UInt8)) (s0 : (List Pub)) (t7 : Int) (e : ((Int × (List UInt8)) ⊕ Unit)) (p : Out × St) : Prop := match e with
 | .inl x => p.1 = .ret ∧ finF F83 [.d (.sl (List.map Pub.d s_)), .fn 84 [.ptr [0, 1] 0 0]] p.2 = some (.i x.1, [.d (.sl (List.map Pub.d s_)), .fn 84 [.ptr [.d (.str x.2)]]])
 | .inr x => p.1 = .exit 0 ∧ ∃ g : Unit, Canon [] [] [[0, 1]] p.2 (slices_IndexFunc_LPub_pool_Find_1_h25 b_0_1)
theorem slices_IndexFunc_LPub_pool_Find_1_l6_ok (s_ : (List Pub)) (a_1_0 : (List UInt8)) (b_0_1 : (List UInt8)) (s0 : (List Pub)) (t7 : Int) (t8 : Int) (r : (Lp Int ((Int × (List UInt8)) ⊕ Unit))) (h : slices_IndexFunc_LPub_pool_Find_1_l6 b_0_1 s0 t7 t8 = some r) : Runs L F83l6 (slices_IndexFunc_LPub_pool_Find_1_h6 b_0_1 s0 t7 t8) (LQ [] [0, 1, 7, 8] [[0, 1]] (fun (x : Int) (g : Unit) => slices_IndexFunc_LPub_pool_Find_1_h6 b_0_1 s0 t7 x) (slices_IndexFunc_LPub_pool_Find_1_P6 s_ a_1_0 b_0_1 s0 t7) r) := by
 unfold slices_IndexFunc_LPub_pool_Find_1_l6 at h
 refine Sq <| Ro <| Rc 1 [vb (decide (t8 < t7))] <| Rk <| Sq ?_
 cases hb_1 : ((decide (t8 < t7)) : Bool) with
 | true =>
  replace h := ite_t hb_1 h
  refine Ct <| Runs.skip <| kS_nrm <| Sq <| Runs.block <| Sq <| Ro <| Rc 2 [vi t8, vi t8] <| Rk <| Sq <| Ro <| Rc 3 [⟨.fn 84 [.ptr [0, 1] 0 0], []⟩, ⟨.d (.sl (List.map Pub.d s0)), []⟩, vi t8] ?_
  obtain ⟨z_1, hz_1, h⟩ := bind_s h
  refine Rt (some 14) (.iaddrS 5) [] none [.d (.sl (List.map Pub.d s0)), .i t8] (.elt (Pub.d z_1) 0) [] (cut_at hz_1 (fun _ => rfl)) <| Rc 1 [⟨.d (Pub.d z_1), []⟩] ?_
  obtain ⟨r_1, hr_1, h⟩ := bind_s h
  have hc_1 := pool_Find_1_L z_1 b_0_1 r_1 hr_1
  refine Rt (some 16) .callv [] none [.fn 84 [.ptr [0, 1] 0 0], .d (Pub.d z_1)] (.b r_1) [([0, 1], some (.cells [.d (.str b_0_1)] 0))] (cut_callv (call_of (ws := []) (us := [([0, 1], some (.cells [.d (.str b_0_1)] 0))]) (by kernel_rfl) (by kernel_rfl) hc_1 (by kernel_rfl) (by kernel_rfl))) <| Rk ?_
  cases hb_2 : (r_1 : Bool) with
  | true =>
   replace h := ite_t hb_2 h
   refine Ct <| Sq <| Ro <| Rc 2 [vi t8, vi t8] <| Rk <| Runs.ret <| kB_ret <| kS_ret ?_
   obtain rfl := sj h
   exact ⟨nofun, rfl, (by kernel_rfl)⟩
  | false =>
   replace h := ite_f hb_2 h
   refine Cf <| Runs.skip <| kB_nrm <| kS_nrm <| Ro <| Rc 2 [vi (IntKind.wrap .i64 (t8 + 1)), vi (IntKind.wrap .i64 (t8 + 1))] <| Rd ?_
   obtain rfl := sj h
   exact ⟨rfl, (), Cz⟩
 | false =>
  replace h := ite_f hb_1 h
  refine Cf <| Runs.exit <| kS_exit ?_
  obtain rfl := sj h
  exact ⟨nofun, rfl, (), Cz⟩
theorem slices_IndexFunc_LPub_pool_Find_1_ok (s_ : (List Pub)) (a_1_0 : (List UInt8)) (r : (Int × (List UInt8))) (h : slices_IndexFunc_LPub_pool_Find_1 s_ a_1_0 = some r) : Runs L F83.body ⟨tmOf [.d (.sl (List.map Pub.d s_)), .fn 84 [.ptr [0, 1] 0 0]] 0, updW (fun _ => none) [([0, 1], some (.cells [.d (.str a_1_0)] 0))]⟩ (slices_IndexFunc_LPub_pool_Find_1_Q s_ a_1_0 r) := by
 unfold slices_IndexFunc_LPub_pool_Find_1 at h
 refine Sq <| Ro <| Rc 1 [vi 0] <| Rk <| Sq <| Sq <| Ro <| Rc 1 [⟨.d (.sl (List.map Pub.d s_)), []⟩] <| Rt (some 7) .lenL [] none [.d (.sl (List.map Pub.d s_))] (.i (s_.length : Int)) [] (cut_len _) <| Rc 1 [vi 0] <| Rk <| Runs.block ?_
 obtain ⟨e_1, he_1, h⟩ := bind_s h
 refine Runs.loop (fun x : Int => slices_IndexFunc_LPub_pool_Find_1_l6 a_1_0 s_ (s_.length : Int) x) (fun (x : Int) (g : Unit) => slices_IndexFunc_LPub_pool_Find_1_h6 a_1_0 s_ (s_.length : Int) x) (slices_IndexFunc_LPub_pool_Find_1_P6 s_ a_1_0 a_1_0 s_ (s_.length : Int)) (fun x g r hr => slices_IndexFunc_LPub_pool_Find_1_l6_ok s_ a_1_0 a_1_0 s_ (s_.length : Int) x  r hr) () he_1 Cz ?_
 rintro ⟨o, s⟩ hp
 cases e_1 with
 | inl e_2 =>
  obtain ⟨ho, hf⟩ := hp
  have ho' : o = .ret := ho
  subst ho'
  refine kB_ret <| kS_ret ?_
  obtain rfl := sj h
  exact ⟨Out.ret_ne, hf⟩
 | inr e_3 =>
  obtain ⟨ho, g_1, hk_1⟩ := hp
  have ho' : o = .exit 0 := ho
  subst ho'
  refine kB_hit <| kS_nrm <| Runs.canon _ hk_1 <| Sq <| Ro <| Rc 1 [vi (-1)] <| Rk <| Runs.ret ?_
  cases h
  exact Fq
theorem slices_IndexFunc_LPub_pool_Find_1_L (s_ : (List Pub)) (a_1_0 : (List UInt8)) (r : (Int × (List UInt8))) (h : slices_IndexFunc_LPub_pool_Find_1 s_ a_1_0 = some r) : L 83 [.d (.sl (List.map Pub.d s_)), .fn 84 [.ptr [.d (.str a_1_0)]]] = some (.i r.1, [.d (.sl (List.map Pub.d s_)), .fn 84 [.ptr [.d (.str r.2)]]]) := by
 obtain ⟨p, ⟨hne, hf⟩, hr⟩ := slices_IndexFunc_LPub_pool_Find_1_ok s_ a_1_0 r h
 obtain ⟨k, hk⟩ := run_of (F := F83) (args := [.d (.sl (List.map Pub.d s_)), .fn 84 [.ptr [.d (.str a_1_0)]]]) (ap := [.d (.sl (List.map Pub.d s_)), .fn 84 [.ptr [0, 1] 0 0]]) (bx0 := updW (fun _ => none) [([0, 1], some (.cells [.d (.str a_1_0)] 0))]) rfl rfl (by kernel_rfl) ⟨p, ⟨hne, hf⟩, hr⟩
 exact lim_run (k := k) rfl hk
def pool_Find_2_Q (x_ : Ext) (a1_ : (List UInt8)) (r : Bool) (p : Out × St) : Prop := (∀ i, p.1 ≠ .exit i) ∧ finF F85 [.d (Ext.d x_), .ptr [1] 0 0] p.2 = some (.b r, [.d (Ext.d x_), .ptr [.d (.str a1_)]])
theorem pool_Find_2_ok (x_ : Ext) (a1_ : (List UInt8)) (r : Bool) (h : pool_Find_2 x_ a1_ = some r) : Runs L F85.body ⟨tmOf [.d (Ext.d x_), .ptr [1] 0 0] 0, updW (fun _ => none) [([1], some (.cells [.d (.str a1_)] 0))]⟩ (pool_Find_2_Q x_ a1_ r) := by
 unfold pool_Find_2 at h
 refine Sq <| Ro <| Rc 2 [⟨.ptr [2] 0 0, [([2], some (.cells [.d (.str x_.Name), .i x_.Com, .u x_.Len] 0))]⟩, vb false] <| Rk <| Sq <| Ro <| Rc 5 [vp [2] 0 0, ⟨.d (.str x_.Name), []⟩, ⟨.d (.str a1_), []⟩, vb (x_.Name == a1_), vb (x_.Name == a1_)] <| Rk <| Runs.ret ?_
 cases h
 exact Fq
theorem pool_Find_2_L (x_ : Ext) (a1_ : (List UInt8)) (r : Bool) (h : pool_Find_2 x_ a1_ = some r) : L 85 [.d (Ext.d x_), .ptr [.d (.str a1_)]] = some (.b r, [.d (Ext.d x_), .ptr [.d (.str a1_)]]) := by
 obtain ⟨p, ⟨hne, hf⟩, hr⟩ := pool_Find_2_ok x_ a1_ r h
 obtain ⟨k, hk⟩ := run_of (F := F85) (args := [.d (Ext.d x_), .ptr [.d (.str a1_)]]) (ap := [.d (Ext.d x_), .ptr [1] 0 0]) (bx0 := updW (fun _ => none) [([1], some (.cells [.d (.str a1_)] 0))]) rfl rfl (by kernel_rfl) ⟨p, ⟨hne, hf⟩, hr⟩
 exact lim_run (k := k) rfl hk
def slices_IndexFunc_LExt_pool_Find_2_h6 (b_0_1 : (List UInt8)) (s_ : (List Ext)) (t7 : Int) (t8 : Int) : St := ⟨tab [(0, .ref [0] 0 0 (List.map Ext.d s_).length 3), (1, .fn 85 [.ptr [0, 1] 0 0]), (7, .i t7), (8, .i t8)], tabB [([0], some (.arr (List.map Ext.d s_) 0 false)), ([0, 1], some (.cells [.d (.str b_0_1)] 0))]⟩
def slices_IndexFunc_LExt_pool_Find_2_h25 (b_0_1 : (List UInt8)) (s_ : (List Ext)) : St := ⟨tab [], tabB [([0], some (.arr (List.map Ext.d s_) 0 false)), ([0, 1], some (.cells [.d (.str b_0_1)] 0))]⟩
def slices_IndexFunc_LExt_pool_Find_2_Q (s_ : (List Ext)) (a_1_0 : (List UInt8)) (r : (Int × (List UInt8))) (p : Out × St) : Prop := (∀ i, p.1 ≠ .exit i) ∧ finF F78 [.ref [0] 0 0 (List.map Ext.d s_).length 3, .fn 85 [.ptr [0, 1] 0 0]] p.2 = some (.i r.1, [.arr false 3 (List.map Ext.d s_), .fn 85 [.ptr [.d (.str r.2)]]])
def slices_IndexFunc_LExt_pool_Find_2_P6 (s_ : (List Ext)) (a_1_0 : (List UInt8)) (b_0_1 : (List UInt8)) (s_ : (List Ext)) (t7 : Int) (e : ((Int × (List UInt8)) ⊕ Unit)) (p : Out × St) : Prop := match e with
 | .inl x => p.1 = .ret ∧ finF F78 [.ref [0] 0 0 (List.map Ext.d s_).length 3, .fn 85 [.ptr [0, 1] 0 0]] p.2 = some (.i x.1, [.arr false 3 (List.map Ext.d s_), .fn 85 [.ptr [.d (.str x.2)]]])
 | .inr x => p.1 = .exit 0 ∧ ∃ g : Unit, Canon [] [] [[0], [0, 1]] p.2 (slices_IndexFunc_LExt_pool_Find_2_h25 b_0_1 s_)
theorem slices_IndexFunc_LExt_pool_Find_2_l6_ok (s_ : (List Ext)) (a_1_0 : (List UInt8)) (b_0_1 : (List UInt8)) (s_ : (List Ext)) (t7 : Int) (t8 : Int) (r : (Lp Int ((Int × (List UInt8)) ⊕ Unit))) (h : slices_IndexFunc_LExt_pool_Find_2_l6 b_0_1 s_ t7 t8 = some r) : Runs L F78l6 (slices_IndexFunc_LExt_pool_Find_2_h6 b_0_1 s_ t7 t8) (LQ [] [0, 1, 7, 8] [[0], [0, 1]] (fun (x : Int) (g : Unit) => slices_IndexFunc_LExt_pool_Find_2_h6 b_0_1 s_ t7 x) (slices_IndexFunc_LExt_pool_Find_2_P6 s_ a_1_0 b_0_1 s_ t7) r) := by
 unfold slices_IndexFunc_LExt_pool_Find_2_l6 at h
 refine Sq <| Ro <| Rc 1 [vb (decide (t8 < t7))] <| Rk <| Sq ?_
 cases hb_1 : ((decide (t8 < t7)) : Bool) with
 | true =>
  replace h := ite_t hb_1 h
  refine Ct <| Runs.skip <| kS_nrm <| Sq <| Runs.block <| Sq <| Ro <| Rc 2 [vi t8, vi t8] <| Rk <| Sq <| Ro <| Rc 3 [⟨.fn 85 [.ptr [0, 1] 0 0], []⟩, ⟨.ref [0] 0 0 (List.map Ext.d s_).length 3, []⟩, vi t8] ?_
  obtain ⟨z_1, hz_1, h⟩ := bind_s h
  refine Rt (some 14) (.iaddrS 3) [] none [.ref [0] 0 0 (List.map Ext.d s_).length 3, .i t8] (.eref [0] 0 (0 + (t8).toNat) 0) [] (cut_atR (e := Ext.d) (l := s_) hz_1 rfl) <| Rt (some 15) (.load (some 3)) [] none [.eref [0] 0 (0 + (t8).toNat) 0] (.d (Ext.d z_1)) [] (cut_loadR (e := Ext.d) (l := s_) (fz := false) (y := z_1) (by kernel_rfl) hz_1 (by kernel_rfl) (by kernel_rfl)) ?_
  obtain ⟨r_1, hr_1, h⟩ := bind_s h
  have hc_1 := pool_Find_2_L z_1 b_0_1 r_1 hr_1
  refine Rt (some 16) .callv [] none [.fn 85 [.ptr [0, 1] 0 0], .d (Ext.d z_1)] (.b r_1) [([0, 1], some (.cells [.d (.str b_0_1)] 0))] (cut_callv (call_of (ws := []) (us := [([0, 1], some (.cells [.d (.str b_0_1)] 0))]) (by kernel_rfl) (by kernel_rfl) hc_1 (by kernel_rfl) (by kernel_rfl))) <| Rk ?_
  cases hb_2 : (r_1 : Bool) with
  | true =>
   replace h := ite_t hb_2 h
   refine Ct <| Sq <| Ro <| Rc 2 [vi t8, vi t8] <| Rk <| Runs.ret <| kB_ret <| kS_ret ?_
   obtain rfl := sj h
   exact ⟨nofun, rfl, (fin_ofL (rs := [.i t8]) (by kernel_rfl) (map_cons_ (lendP_of (fz := false) (es := List.map Ext.d s_) (by kernel_rfl) rfl (by decide)) (map_cons_ rfl map_nil_)) (by kernel_rfl) (outs_d outs_nil) (gives_cons (give_lref (fz := false) (es := List.map Ext.d s_) (by kernel_rfl) rfl (by kernel_rfl) (by decide)) (gives_cons (give_same (by kernel_rfl)) gives_nil)))⟩
  | false =>
   replace h := ite_f hb_2 h
   refine Cf <| Runs.skip <| kB_nrm <| kS_nrm <| Ro <| Rc 2 [vi (IntKind.wrap .i64 (t8 + 1)), vi (IntKind.wrap .i64 (t8 + 1))] <| Rd ?_
   obtain rfl := sj h
   exact ⟨rfl, (), Cz⟩
 | false =>
  replace h := ite_f hb_1 h
  refine Cf <| Runs.exit <| kS_exit ?_
  obtain rfl := sj h
  exact ⟨nofun, rfl, (), Cz⟩
theorem slices_IndexFunc_LExt_pool_Find_2_ok (s_ : (List Ext)) (a_1_0 : (List UInt8)) (r : (Int × (List UInt8))) (h : slices_IndexFunc_LExt_pool_Find_2 s_ a_1_0 = some r) : Runs L F78.body ⟨tmOf [.ref [0] 0 0 (List.map Ext.d s_).length 3, .fn 85 [.ptr [0, 1] 0 0]] 0, updW (fun _ => none) [([0], some (.arr (List.map Ext.d s_) 0 false)), ([0, 1], some (.cells [.d (.str a_1_0)] 0))]⟩ (slices_IndexFunc_LExt_pool_Find_2_Q s_ a_1_0 r) := by
 unfold slices_IndexFunc_LExt_pool_Find_2 at h
 refine Sq <| Ro <| Rc 1 [vi 0] <| Rk <| Sq <| Sq <| Ro <| Rc 1 [⟨.ref [0] 0 0 (List.map Ext.d s_).length 3, []⟩] <| Rt (some 7) .lenL [] none [.ref [0] 0 0 (List.map Ext.d s_).length 3] (.i (s_.length : Int)) [] (cut_lenR (e := Ext.d) s_ rfl) <| Rc 1 [vi 0] <| Rk <| Runs.block ?_
 obtain ⟨e_1, he_1, h⟩ := bind_s h
 refine Runs.loop (fun x : Int => slices_IndexFunc_LExt_pool_Find_2_l6 a_1_0 s_ (s_.length : Int) x) (fun (x : Int) (g : Unit) => slices_IndexFunc_LExt_pool_Find_2_h6 a_1_0 s_ (s_.length : Int) x) (slices_IndexFunc_LExt_pool_Find_2_P6 s_ a_1_0 a_1_0 s_ (s_.length : Int)) (fun x g r hr => slices_IndexFunc_LExt_pool_Find_2_l6_ok s_ a_1_0 a_1_0 s_ (s_.length : Int) x  r hr) () he_1 Cz ?_
 rintro ⟨o, s⟩ hp
 cases e_1 with
 | inl e_2 =>
  obtain ⟨ho, hf⟩ := hp
  have ho' : o = .ret := ho
  subst ho'
  refine kB_ret <| kS_ret ?_
  obtain rfl := sj h
  exact ⟨Out.ret_ne, hf⟩
 | inr e_3 =>
  obtain ⟨ho, g_1, hk_1⟩ := hp
  have ho' : o = .exit 0 := ho
  subst ho'
  refine kB_hit <| kS_nrm <| Runs.canon _ hk_1 <| Sq <| Ro <| Rc 1 [vi (-1)] <| Rk <| Runs.ret ?_
  obtain rfl := sj h
  exact ⟨Out.ret_ne, (fin_ofL (rs := [.i (-1)]) (by kernel_rfl) (map_cons_ (lendP_of (fz := false) (es := List.map Ext.d s_) (by kernel_rfl) rfl (by decide)) (map_cons_ rfl map_nil_)) (by kernel_rfl) (outs_d outs_nil) (gives_cons (give_lref (fz := false) (es := List.map Ext.d s_) (by kernel_rfl) rfl (by kernel_rfl) (by decide)) (gives_cons (give_same (by kernel_rfl)) gives_nil)))⟩
theorem slices_IndexFunc_LExt_pool_Find_2_L (s_ : (List Ext)) (a_1_0 : (List UInt8)) (r : (Int × (List UInt8))) (h : slices_IndexFunc_LExt_pool_Find_2 s_ a_1_0 = some r) : L 78 [.arr false 3 (List.map Ext.d s_), .fn 85 [.ptr [.d (.str a_1_0)]]] = some (.i r.1, [.arr false 3 (List.map Ext.d s_), .fn 85 [.ptr [.d (.str r.2)]]]) := by
 obtain ⟨p, ⟨hne, hf⟩, hr⟩ := slices_IndexFunc_LExt_pool_Find_2_ok s_ a_1_0 r h
 obtain ⟨k, hk⟩ := run_of (F := F78) (args := [.arr false 3 (List.map Ext.d s_), .fn 85 [.ptr [.d (.str a_1_0)]]]) (ap := [.ref [0] 0 0 (List.map Ext.d s_).length 3, .fn 85 [.ptr [0, 1] 0 0]]) (bx0 := updW (fun _ => none) [([0], some (.arr (List.map Ext.d s_) 0 false)), ([0, 1], some (.cells [.d (.str a_1_0)] 0))]) rfl rfl (by kernel_rfl) ⟨p, ⟨hne, hf⟩, hr⟩
 exact lim_run (k := k) rfl hk
def pool_Find_Q (l_ : (List Module)) (name_ : (List UInt8)) (r : (Given × Bool)) (p : Out × St) : Prop := (∀ i, p.1 ≠ .exit i) ∧ finF F41 [.d (.sl (List.map Module.d l_)), .d (.str name_)] p.2 = some (.tup [.d (Given.d r.1), .b r.2], [.d (.sl (List.map Module.d l_)), .d (.str name_)])
theorem pool_Find_ok (l_ : (List Module)) (name_ : (List UInt8)) (r : (Given × Bool)) (h : pool_Find l_ name_ = some r) : Runs L F41.body ⟨tmOf [.d (.sl (List.map Module.d l_)), .d (.str name_)] 0, updW (fun _ => none) []⟩ (pool_Find_Q l_ name_ r) := by
 unfold pool_Find at h
 refine Sq <| Ro <| Rc 3 [⟨.ptr [3] 0 0, [([3], some (.cells [.d (.str name_)] 0))]⟩, ⟨.ptr [4] 0 0, [([4], some (.cells [.i 0, .i 0, .b false] 0))]⟩, vb false] <| Rk <| Sq <| Sq <| Ro <| Rc 2 [⟨.d (.sl (List.map Module.d l_)), []⟩, ⟨.d (.str name_), []⟩] ?_
 obtain ⟨r_1, hr_1, h⟩ := bind_s h
 have hc_1 := pool_given_L l_ name_ r_1 hr_1
 refine Rt (some 11) (.callf 77) [] none [.d (.sl (List.map Module.d l_)), .d (.str name_)] (.i r_1) [] (cc hc_1) <| Rc 1 [vi r_1] <| Rk <| Sq <| Ro <| Rc 2 [vi r_1, vb (decide (r_1 ≥ 0))] <| Rk ?_
 cases hb_1 : ((decide (r_1 ≥ 0)) : Bool) with
 | true =>
  replace h := ite_t hb_1 h
  refine Ct <| Sq <| Ro <| Rc 2 [⟨.d (.sl (List.map Module.d l_)), []⟩, vi r_1] ?_
  obtain ⟨z_1, hz_1, h⟩ := bind_s h
  refine Rt (some 16) (.iaddrS 18) [] none [.d (.sl (List.map Module.d l_)), .i r_1] (.elt (Module.d z_1) 0) [] (cut_at hz_1 (fun _ => rfl)) <| Rc 3 [⟨.elt (Module.d z_1) 6, []⟩, ⟨.d (.sl (List.map Pub.d z_1.Pubs)), []⟩, ⟨.fn 84 [.ptr [3] 0 0], []⟩] ?_
  obtain ⟨r_2, hr_2, h⟩ := bind_s h
  have hc_2 := slices_IndexFunc_LPub_pool_Find_1_L z_1.Pubs name_ r_2 hr_2
  refine Rt (some 20) (.callf 83) [] none [.d (.sl (List.map Pub.d z_1.Pubs)), .fn 84 [.ptr [3] 0 0]] (.i r_2.1) [([3], some (.cells [.d (.str r_2.2)] 0))] (cut_call (call_of (ws := []) (us := [([3], some (.cells [.d (.str r_2.2)] 0))]) (by kernel_rfl) (by kernel_rfl) hc_2 (by kernel_rfl) (by kernel_rfl))) <| Rc 1 [vi r_2.1] <| Rk <| Sq <| Ro <| Rc 5 [vi r_1, vi r_2.1, ⟨.d (.agg [.int .i64 r_1, .int .i64 r_2.1, .bool false]), []⟩, ⟨.tup [], [([4], some (.cells [.i r_1, .i r_2.1, .b false] 0))]⟩, vb true] <| Rk <| Runs.ret <| kS_ret ?_
  cases h
  exact Fq
 | false =>
  replace h := ite_f hb_1 h
  refine Cf <| Runs.skip <| kS_nrm <| Sq <| Ro <| Rc 1 [⟨.d (.sl (List.map Module.d l_)), []⟩] ?_
  obtain ⟨r_3, hr_3, h⟩ := bind_s h
  have hc_3 := pool_Made_L l_ r_3 hr_3
  refine Rt (some 25) (.callf 37) [] none [.d (.sl (List.map Module.d l_))] (.ref [25] 0 0 (List.map Ext.d r_3).length 3) [([25], some (.arr (List.map Ext.d r_3) 0 false))] (cut_call (call_of (ws := []) (us := []) (by kernel_rfl) (gives_cons (ws := []) (give_same (by kernel_rfl)) gives_nil) hc_3 (by kernel_rfl) (by kernel_rfl))) <| Rc 1 [⟨.fn 85 [.ptr [3] 0 0], []⟩] ?_
  obtain ⟨r_4, hr_4, h⟩ := bind_s h
  have hc_4 := slices_IndexFunc_LExt_pool_Find_2_L r_3 name_ r_4 hr_4
  have hn_1 := lim_len (F := tab1) (X := fun _ _ => none) hc_4 (show tab1 78 = some F78 from by kernel_rfl) rfl 0 rfl (by decide) rfl
  refine Rt (some 27) (.callf 78) [] none [.lref [25] 0 0 (List.map Ext.d r_3).length 3, .fn 85 [.ptr [3] 0 0]] (.i r_4.1) [([25], some (.arr (List.map Ext.d r_3) 0 false)), ([3], some (.cells [.d (.str r_4.2)] 0))] (cut_call (call_ofL (ws := []) (us := [([25], some (.arr (List.map Ext.d r_3) 0 false)), ([3], some (.cells [.d (.str r_4.2)] 0))]) (by kernel_rfl) (map_cons_ (lendX_of (fz := false) (es := List.map Ext.d r_3) (by kernel_rfl) (by kernel_rfl) rfl (by decide)) (map_cons_ rfl map_nil_)) (gives_cons (ws := []) (give_lref (fz := false) (es := List.map Ext.d r_3) (by kernel_rfl) rfl (by kernel_rfl) (by decide)) (gives_cons (ws := []) (give_same (by kernel_rfl)) gives_nil)) hc_4 (backs_cons_ (ws := [([25], some (.arr (List.map Ext.d r_3) 0 false))]) (back_lref (f0 := false) (es0 := List.map Ext.d r_3) (by kernel_rfl) hn_1) (backs_cons_ (ws := [([3], some (.cells [.d (.str r_4.2)] 0))]) (by kernel_rfl) backs_nil_)) (by kernel_rfl))) <| Rc 1 [vi r_4.1] <| Rk <| Sq <| Sq <| Ro <| Rc 2 [vi r_4.1, vb (decide (r_4.1 < 0))] <| Rk ?_
  cases hb_2 : ((decide (r_4.1 < 0)) : Bool) with
  | true =>
   replace h := ite_t hb_2 h
   refine Ct <| Sq <| Ro <| Rc 3 [⟨.d (.agg [.int .i64 0, .int .i64 0, .bool false]), []⟩, ⟨.tup [], [([4], some (.cells [.i 0, .i 0, .b false] 0))]⟩, vb false] <| Rk <| Runs.ret <| kS_ret ?_
   cases h
   exact Fq
  | false =>
   replace h := ite_f hb_2 h
   refine Cf <| Runs.skip <| kS_nrm <| Sq <| Ro <| Rc 4 [vi r_4.1, ⟨.d (.agg [.int .i64 0, .int .i64 r_4.1, .bool true]), []⟩, ⟨.tup [], [([4], some (.cells [.i 0, .i r_4.1, .b true] 0))]⟩, vb true] <| Rk <| Runs.ret ?_
   cases h
   exact Fq
theorem pool_Find_L (l_ : (List Module)) (name_ : (List UInt8)) (r : (Given × Bool)) (h : pool_Find l_ name_ = some r) : L 41 [.d (.sl (List.map Module.d l_)), .d (.str name_)] = some (.tup [.d (Given.d r.1), .b r.2], [.d (.sl (List.map Module.d l_)), .d (.str name_)]) := by
 obtain ⟨p, ⟨hne, hf⟩, hr⟩ := pool_Find_ok l_ name_ r h
 obtain ⟨k, hk⟩ := run_of (F := F41) (args := [.d (.sl (List.map Module.d l_)), .d (.str name_)]) (ap := [.d (.sl (List.map Module.d l_)), .d (.str name_)]) (bx0 := updW (fun _ => none) []) rfl rfl (by kernel_rfl) ⟨p, ⟨hne, hf⟩, hr⟩
 exact lim_run (k := k) rfl hk
def hansomlaw39_PoolNames_h10 (given6 : (A8 Int)) (made7 : (A8 Int)) (l0 : (List (A4 Int))) (n1 : Int) (m5 : (List Module)) (twice8 : Bool) (i9 : Int) : St := ⟨tab [(0, .d (.sl (List.map (A4.ag (D.int .i64)) l0))), (1, .i n1), (5, .d (.sl (List.map Module.d m5))), (6, .ptr [6] 0 0), (7, .ptr [7] 0 0), (8, .b twice8), (9, .i i9)], tabB [([6], some (.cells [.i given6.a0, .i given6.a1, .i given6.a2, .i given6.a3, .i given6.a4, .i given6.a5, .i given6.a6, .i given6.a7] 0)), ([7], some (.cells [.i made7.a0, .i made7.a1, .i made7.a2, .i made7.a3, .i made7.a4, .i made7.a5, .i made7.a6, .i made7.a7] 0))]⟩
def hansomlaw39_PoolNames_h33 (given6 : (A8 Int)) (made7 : (A8 Int)) (l0 : (List (A4 Int))) (n1 : Int) (m5 : (List Module)) (twice8 : Bool) : St := ⟨tab [(0, .d (.sl (List.map (A4.ag (D.int .i64)) l0))), (1, .i n1), (5, .d (.sl (List.map Module.d m5))), (6, .ptr [6] 0 0), (7, .ptr [7] 0 0), (8, .b twice8)], tabB [([6], some (.cells [.i given6.a0, .i given6.a1, .i given6.a2, .i given6.a3, .i given6.a4, .i given6.a5, .i given6.a6, .i given6.a7] 0)), ([7], some (.cells [.i made7.a0, .i made7.a1, .i made7.a2, .i made7.a3, .i made7.a4, .i made7.a5, .i made7.a6, .i made7.a7] 0))]⟩
def hansomlaw39_PoolNames_h39 (given6 : (A8 Int)) (made7 : (A8 Int)) (b_61 : (List Int)) (l0 : (List (A4 Int))) (n1 : Int) (m5 : (List Module)) (twice8 : Bool) (i12 : Int) (v_61 : Nat) : St := ⟨tab [(0, .d (.sl (List.map (A4.ag (D.int .i64)) l0))), (1, .i n1), (5, .d (.sl (List.map Module.d m5))), (6, .ptr [6] 0 0), (7, .ptr [7] 0 0), (8, .b twice8), (11, .ref [61] v_61 0 (List.map (D.int .i64) b_61).length 1), (12, .i i12)], tabB [([6], some (.cells [.i given6.a0, .i given6.a1, .i given6.a2, .i given6.a3, .i given6.a4, .i given6.a5, .i given6.a6, .i given6.a7] 0)), ([7], some (.cells [.i made7.a0, .i made7.a1, .i made7.a2, .i made7.a3, .i made7.a4, .i made7.a5, .i made7.a6, .i made7.a7] 0)), ([61], some (.arr (List.map (D.int .i64) b_61) v_61 false))]⟩
def hansomlaw39_PoolNames_h52 (given6 : (A8 Int)) (made7 : (A8 Int)) (b_61 : (List Int)) (l0 : (List (A4 Int))) (n1 : Int) (m5 : (List Module)) (twice8 : Bool) (i12 : Int) (k13 : Int) (t86 : Bool) (v_61 : Nat) : St := ⟨tab [(0, .d (.sl (List.map (A4.ag (D.int .i64)) l0))), (1, .i n1), (5, .d (.sl (List.map Module.d m5))), (6, .ptr [6] 0 0), (7, .ptr [7] 0 0), (8, .b twice8), (11, .ref [61] v_61 0 (List.map (D.int .i64) b_61).length 1), (12, .i i12), (13, .i k13), (86, .b t86)], tabB [([6], some (.cells [.i given6.a0, .i given6.a1, .i given6.a2, .i given6.a3, .i given6.a4, .i given6.a5, .i given6.a6, .i given6.a7] 0)), ([7], some (.cells [.i made7.a0, .i made7.a1, .i made7.a2, .i made7.a3, .i made7.a4, .i made7.a5, .i made7.a6, .i made7.a7] 0)), ([61], some (.arr (List.map (D.int .i64) b_61) v_61 false))]⟩
def hansomlaw39_PoolNames_h62 (given6 : (A8 Int)) (made7 : (A8 Int)) (b_61 : (List Int)) (l0 : (List (A4 Int))) (n1 : Int) (m5 : (List Module)) (twice8 : Bool) (v_61 : Nat) : St := ⟨tab [(0, .d (.sl (List.map (A4.ag (D.int .i64)) l0))), (1, .i n1), (5, .d (.sl (List.map Module.d m5))), (6, .ptr [6] 0 0), (7, .ptr [7] 0 0), (8, .b twice8), (11, .ref [61] v_61 0 (List.map (D.int .i64) b_61).length 1)], tabB [([6], some (.cells [.i given6.a0, .i given6.a1, .i given6.a2, .i given6.a3, .i given6.a4, .i given6.a5, .i given6.a6, .i given6.a7] 0)), ([7], some (.cells [.i made7.a0, .i made7.a1, .i made7.a2, .i made7.a3, .i made7.a4, .i made7.a5, .i made7.a6, .i made7.a7] 0)), ([61], some (.arr (List.map (D.int .i64) b_61) v_61 false))]⟩
def hansomlaw39_PoolNames_h76 (given6 : (A8 Int)) (made7 : (A8 Int)) (b_61 : (List Int)) (l0 : (List (A4 Int))) (n1 : Int) (m5 : (List Module)) (x14 : (List Ext)) (i15 : Int) (v_61 : Nat) : St := ⟨tab [(0, .d (.sl (List.map (A4.ag (D.int .i64)) l0))), (1, .i n1), (5, .d (.sl (List.map Module.d m5))), (6, .ptr [6] 0 0), (7, .ptr [7] 0 0), (11, .ref [61] v_61 0 (List.map (D.int .i64) b_61).length 1), (14, .d (.sl (List.map Ext.d x14))), (15, .i i15)], tabB [([6], some (.cells [.i given6.a0, .i given6.a1, .i given6.a2, .i given6.a3, .i given6.a4, .i given6.a5, .i given6.a6, .i given6.a7] 0)), ([7], some (.cells [.i made7.a0, .i made7.a1, .i made7.a2, .i made7.a3, .i made7.a4, .i made7.a5, .i made7.a6, .i made7.a7] 0)), ([61], some (.arr (List.map (D.int .i64) b_61) v_61 false))]⟩
def hansomlaw39_PoolNames_h93 (given6 : (A8 Int)) (made7 : (A8 Int)) (l0 : (List (A4 Int))) (n1 : Int) (m5 : (List Module)) (x14 : (List Ext)) : St := ⟨tab [(0, .d (.sl (List.map (A4.ag (D.int .i64)) l0))), (1, .i n1), (5, .d (.sl (List.map Module.d m5))), (6, .ptr [6] 0 0), (7, .ptr [7] 0 0), (14, .d (.sl (List.map Ext.d x14)))], tabB [([6], some (.cells [.i given6.a0, .i given6.a1, .i given6.a2, .i given6.a3, .i given6.a4, .i given6.a5, .i given6.a6, .i given6.a7] 0)), ([7], some (.cells [.i made7.a0, .i made7.a1, .i made7.a2, .i made7.a3, .i made7.a4, .i made7.a5, .i made7.a6, .i made7.a7] 0))]⟩
def hansomlaw39_PoolNames_h101 (given6 : (A8 Int)) (made7 : (A8 Int)) (seen17 : (A8 Bool)) (l0 : (List (A4 Int))) (n1 : Int) (m5 : (List Module)) (x14 : (List Ext)) (lost16 : (List (List UInt8))) (at18 : Int) (i19 : Int) : St := ⟨tab [(0, .d (.sl (List.map (A4.ag (D.int .i64)) l0))), (1, .i n1), (5, .d (.sl (List.map Module.d m5))), (6, .ptr [6] 0 0), (7, .ptr [7] 0 0), (14, .d (.sl (List.map Ext.d x14))), (16, .d (.sl (List.map D.str lost16))), (17, .ptr [17] 0 0), (18, .i at18), (19, .i i19)], tabB [([6], some (.cells [.i given6.a0, .i given6.a1, .i given6.a2, .i given6.a3, .i given6.a4, .i given6.a5, .i given6.a6, .i given6.a7] 0)), ([7], some (.cells [.i made7.a0, .i made7.a1, .i made7.a2, .i made7.a3, .i made7.a4, .i made7.a5, .i made7.a6, .i made7.a7] 0)), ([17], some (.cells [.b seen17.a0, .b seen17.a1, .b seen17.a2, .b seen17.a3, .b seen17.a4, .b seen17.a5, .b seen17.a6, .b seen17.a7] 0))]⟩
def hansomlaw39_PoolNames_h130 (given6 : (A8 Int)) (made7 : (A8 Int)) (n1 : Int) (m5 : (List Module)) (x14 : (List Ext)) (lost16 : (List (List UInt8))) (at18 : Int) : St := ⟨tab [(1, .i n1), (5, .d (.sl (List.map Module.d m5))), (6, .ptr [6] 0 0), (7, .ptr [7] 0 0), (14, .d (.sl (List.map Ext.d x14))), (16, .d (.sl (List.map D.str lost16))), (18, .i at18)], tabB [([6], some (.cells [.i given6.a0, .i given6.a1, .i given6.a2, .i given6.a3, .i given6.a4, .i given6.a5, .i given6.a6, .i given6.a7] 0)), ([7], some (.cells [.i made7.a0, .i made7.a1, .i made7.a2, .i made7.a3, .i made7.a4, .i made7.a5, .i made7.a6, .i made7.a7] 0))]⟩
def hansomlaw39_PoolNames_Q (l_ : (List (A4 Int))) (n_ : Int) (r : Bool) (p : Out × St) : Prop := (∀ i, p.1 ≠ .exit i) ∧ finF F10 [.d (.sl (List.map (A4.ag (D.int .i64)) l_)), .i n_] p.2 = some (.b r, [.d (.sl (List.map (A4.ag (D.int .i64)) l_)), .i n_])
def hansomlaw39_PoolNames_P10 (l_ : (List (A4 Int))) (n_ : Int) (made7 : (A8 Int)) (l0 : (List (A4 Int))) (n1 : Int) (m5 : (List Module)) (e : ((A8 Int) × Bool)) (p : Out × St) : Prop := p.1 = .exit 0 ∧ ∃ g : Unit, Canon [] [0, 1, 5, 6, 7, 8] [[6], [7]] p.2 (hansomlaw39_PoolNames_h33 e.1 made7 l0 n1 m5 e.2)
def hansomlaw39_PoolNames_P39 (l_ : (List (A4 Int))) (n_ : Int) (given6 : (A8 Int)) (l0 : (List (A4 Int))) (n1 : Int) (m5 : (List Module)) (twice8 : Bool) (e : ((A8 Int) × (List Int))) (p : Out × St) : Prop := p.1 = .exit 2 ∧ ∃ g : Nat, Canon [] [0, 1, 5, 6, 7, 8, 11] [[6], [7], [61]] p.2 (hansomlaw39_PoolNames_h62 given6 e.1 e.2 l0 n1 m5 twice8 g)
def hansomlaw39_PoolNames_P76 (l_ : (List (A4 Int))) (n_ : Int) (given6 : (A8 Int)) (made7 : (A8 Int)) (b_61 : (List Int)) (l0 : (List (A4 Int))) (n1 : Int) (m5 : (List Module)) (x14 : (List Ext)) (e : (Bool ⊕ Unit)) (p : Out × St) : Prop := match e with
 | .inl x => p.1 = .ret ∧ finF F10 [.d (.sl (List.map (A4.ag (D.int .i64)) l_)), .i n_] p.2 = some (.b x, [.d (.sl (List.map (A4.ag (D.int .i64)) l_)), .i n_])
 | .inr x => p.1 = .exit 4 ∧ ∃ g : Unit, Canon [] [0, 1, 5, 6, 7, 14] [[6], [7]] p.2 (hansomlaw39_PoolNames_h93 given6 made7 l0 n1 m5 x14)
def hansomlaw39_PoolNames_P101 (l_ : (List (A4 Int))) (n_ : Int) (given6 : (A8 Int)) (made7 : (A8 Int)) (l0 : (List (A4 Int))) (n1 : Int) (m5 : (List Module)) (x14 : (List Ext)) (lost16 : (List (List UInt8))) (e : (Bool ⊕ Int)) (p : Out × St) : Prop := match e with
 | .inl x => p.1 = .ret ∧ finF F10 [.d (.sl (List.map (A4.ag (D.int .i64)) l_)), .i n_] p.2 = some (.b x, [.d (.sl (List.map (A4.ag (D.int .i64)) l_)), .i n_])
 | .inr x => p.1 = .exit 6 ∧ ∃ g : Unit, Canon [] [1, 5, 6, 7, 14, 16, 18] [[6], [7]] p.2 (hansomlaw39_PoolNames_h130 given6 made7 n1 m5 x14 lost16 x)
theorem hansomlaw39_PoolNames_l10_ok (l_ : (List (A4 Int))) (n_ : Int) (given6 : (A8 Int)) (made7 : (A8 Int)) (l0 : (List (A4 Int))) (n1 : Int) (m5 : (List Module)) (twice8 : Bool) (i9 : Int) (r : (Lp ((A8 Int) × Bool × Int) ((A8 Int) × Bool))) (h : hansomlaw39_PoolNames_l10 given6 made7 l0 n1 m5 twice8 i9 = some r) : Runs L F10l10 (hansomlaw39_PoolNames_h10 given6 made7 l0 n1 m5 twice8 i9) (LQ [] [0, 1, 5, 6, 7, 8, 9] [[6], [7]] (fun (x : ((A8 Int) × Bool × Int)) (g : Unit) => hansomlaw39_PoolNames_h10 x.1 made7 l0 n1 m5 x.2.1 x.2.2) (hansomlaw39_PoolNames_P10 l_ n_ made7 l0 n1 m5) r) := by
 unfold hansomlaw39_PoolNames_l10 at h
 refine Sq <| Sq <| Ro <| Rc 2 [vi i9, ⟨.d (.sl (List.map Module.d m5)), []⟩] <| Rt (some 30) .lenL [] none [.d (.sl (List.map Module.d m5))] (.i (m5.length : Int)) [] (cut_len _) <| Rc 1 [vb (decide (i9 < (m5.length : Int)))] <| Rk ?_
 cases hb_1 : ((decide (i9 < (m5.length : Int))) : Bool) with
 | true =>
  replace h := ite_t hb_1 h
  refine Ct <| Runs.skip <| kS_nrm <| Sq <| Runs.block <| Sq <| Ro <| Rc 2 [⟨.d (.sl (List.map (A4.ag (D.int .i64)) l0)), []⟩, vi i9] ?_
  obtain ⟨z_1, hz_1, h⟩ := bind_s h
  refine Rt (some 36) (.iaddrS 4) [] none [.d (.sl (List.map (A4.ag (D.int .i64)) l0)), .i i9] (.elt (.agg [.int .i64 z_1.a0, .int .i64 z_1.a1, .int .i64 z_1.a2, .int .i64 z_1.a3]) 0) [] (cut_at hz_1 (fun _ => rfl)) <| Rc 4 [⟨.elt (.agg [.int .i64 z_1.a0, .int .i64 z_1.a1, .int .i64 z_1.a2, .int .i64 z_1.a3]) 1, []⟩, vi z_1.a1, vi (bitsOp .and .i64 z_1.a1 8), vb (decide ((bitsOp .and .i64 z_1.a1 8) > 0))] <| Rk ?_
  cases hb_2 : ((decide ((bitsOp .and .i64 z_1.a1 8) > 0)) : Bool) with
  | true =>
   replace h := ite_t hb_2 h
   refine Ct <| Sq <| Ro <| Rc 2 [⟨.d (.sl (List.map (A4.ag (D.int .i64)) l0)), []⟩, vi i9] ?_
   obtain ⟨z_2, hz_2, h⟩ := bind_s h
   refine Rt (some 43) (.iaddrS 4) [] none [.d (.sl (List.map (A4.ag (D.int .i64)) l0)), .i i9] (.elt (.agg [.int .i64 z_2.a0, .int .i64 z_2.a1, .int .i64 z_2.a2, .int .i64 z_2.a3]) 0) [] (cut_at hz_2 (fun _ => rfl)) <| Rc 4 [⟨.elt (.agg [.int .i64 z_2.a0, .int .i64 z_2.a1, .int .i64 z_2.a2, .int .i64 z_2.a3]) 1, []⟩, vi z_2.a1, vi (bitsOp .and .i64 z_2.a1 7), vi (bitsOp .and .i64 z_2.a1 7)] <| Rk <| Sq <| Ro <| Rc 2 [vb twice8, vb twice8] ?_
   cases hb_3 : (twice8 : Bool) with
   | true =>
    replace h := ite_t hb_3 h
    refine Rc 6 [vn, vn, vn, vn, vb true, vb true] <| Rk <| Sq <| Ro <| Rc 1 [vi (bitsOp .and .i64 z_2.a1 7)] ?_
    obtain ⟨z_3, hz_3, h⟩ := bind_s h
    refine Rt (some 55) (.iaddrA 8 1) [] none [.ptr [6] 0 0, .i (bitsOp .and .i64 z_2.a1 7)] (.ptr [6] 0 (0 + ((bitsOp .and .i64 z_2.a1 7)).toNat * 1)) [] (cut_iaA (l := given6.l) hz_3 rfl) <| Rt (some 56) (.load none) [] none [.ptr [6] 0 (0 + ((bitsOp .and .i64 z_2.a1 7)).toNat * 1)] (.i z_3) [] (cut_ldA (e := (D.int .i64)) (l := given6.l) (y := z_3) hz_3 (by kernel_rfl) (by kernel_rfl)) <| Rc 1 [vb (decide (z_3 < 0))] <| Rk ?_
    cases hb_4 : ((decide (z_3 < 0)) : Bool) with
    | true =>
     replace h := ite_t hb_4 h
     refine Ct <| Ro <| Rc 2 [vi (bitsOp .and .i64 z_2.a1 7), vi i9] ?_
     obtain ⟨z_4, hz_4, h⟩ := bind_s h
     refine Rt (some 60) (.iaddrA 8 1) [] none [.ptr [6] 0 0, .i (bitsOp .and .i64 z_2.a1 7)] (.ptr [6] 0 (0 + ((bitsOp .and .i64 z_2.a1 7)).toNat * 1)) [] (cut_iaA (l := given6.l) hz_4 rfl) <| Rt none (.store 1) [] none [.ptr [6] 0 (0 + ((bitsOp .and .i64 z_2.a1 7)).toNat * 1), .i i9] (.tup []) [([6], some (.cells [.i ((A8.set given6 (bitsOp .and .i64 z_2.a1 7) i9).a0), .i ((A8.set given6 (bitsOp .and .i64 z_2.a1 7) i9).a1), .i ((A8.set given6 (bitsOp .and .i64 z_2.a1 7) i9).a2), .i ((A8.set given6 (bitsOp .and .i64 z_2.a1 7) i9).a3), .i ((A8.set given6 (bitsOp .and .i64 z_2.a1 7) i9).a4), .i ((A8.set given6 (bitsOp .and .i64 z_2.a1 7) i9).a5), .i ((A8.set given6 (bitsOp .and .i64 z_2.a1 7) i9).a6), .i ((A8.set given6 (bitsOp .and .i64 z_2.a1 7) i9).a7)] 0))] (cut_stA (e := (D.int .i64)) (l := given6.l) (l' := (A8.set given6 (bitsOp .and .i64 z_2.a1 7) i9).l) (y := z_4) (y' := i9) hz_4 (by kernel_rfl) (by kernel_rfl) (A8.setl hz_4) rfl) <| Rd <| kB_nrm <| kS_nrm <| Ro <| Rc 3 [vi i9, vi (IntKind.wrap .i64 (i9 + 1)), vi (IntKind.wrap .i64 (i9 + 1))] <| Rd ?_
     obtain rfl := sj h
     exact ⟨rfl, (), Cz⟩
    | false =>
     replace h := ite_f hb_4 h
     refine Cf <| Runs.skip <| kB_nrm <| kS_nrm <| Ro <| Rc 3 [vi i9, vi (IntKind.wrap .i64 (i9 + 1)), vi (IntKind.wrap .i64 (i9 + 1))] <| Rd ?_
     obtain rfl := sj h
     exact ⟨rfl, (), Cz⟩
   | false =>
    replace h := ite_f hb_3 h
    refine Rc 1 [vi (bitsOp .and .i64 z_2.a1 7)] ?_
    obtain ⟨z_5, hz_5, h⟩ := bind_s h
    refine Rt (some 50) (.iaddrA 8 1) [] none [.ptr [6] 0 0, .i (bitsOp .and .i64 z_2.a1 7)] (.ptr [6] 0 (0 + ((bitsOp .and .i64 z_2.a1 7)).toNat * 1)) [] (cut_iaA (l := given6.l) hz_5 rfl) <| Rt (some 51) (.load none) [] none [.ptr [6] 0 (0 + ((bitsOp .and .i64 z_2.a1 7)).toNat * 1)] (.i z_5) [] (cut_ldA (e := (D.int .i64)) (l := given6.l) (y := z_5) hz_5 (by kernel_rfl) (by kernel_rfl)) <| Rc 3 [vb (decide (z_5 ≥ 0)), vb (decide (z_5 ≥ 0)), vb (decide (z_5 ≥ 0))] <| Rk <| Sq <| Ro <| Rc 1 [vi (bitsOp .and .i64 z_2.a1 7)] ?_
    obtain ⟨z_6, hz_6, h⟩ := bind_s h
    refine Rt (some 55) (.iaddrA 8 1) [] none [.ptr [6] 0 0, .i (bitsOp .and .i64 z_2.a1 7)] (.ptr [6] 0 (0 + ((bitsOp .and .i64 z_2.a1 7)).toNat * 1)) [] (cut_iaA (l := given6.l) hz_6 rfl) <| Rt (some 56) (.load none) [] none [.ptr [6] 0 (0 + ((bitsOp .and .i64 z_2.a1 7)).toNat * 1)] (.i z_6) [] (cut_ldA (e := (D.int .i64)) (l := given6.l) (y := z_6) hz_6 (by kernel_rfl) (by kernel_rfl)) <| Rc 1 [vb (decide (z_6 < 0))] <| Rk ?_
    cases hb_5 : ((decide (z_6 < 0)) : Bool) with
    | true =>
     replace h := ite_t hb_5 h
     refine Ct <| Ro <| Rc 2 [vi (bitsOp .and .i64 z_2.a1 7), vi i9] ?_
     obtain ⟨z_7, hz_7, h⟩ := bind_s h
     refine Rt (some 60) (.iaddrA 8 1) [] none [.ptr [6] 0 0, .i (bitsOp .and .i64 z_2.a1 7)] (.ptr [6] 0 (0 + ((bitsOp .and .i64 z_2.a1 7)).toNat * 1)) [] (cut_iaA (l := given6.l) hz_7 rfl) <| Rt none (.store 1) [] none [.ptr [6] 0 (0 + ((bitsOp .and .i64 z_2.a1 7)).toNat * 1), .i i9] (.tup []) [([6], some (.cells [.i ((A8.set given6 (bitsOp .and .i64 z_2.a1 7) i9).a0), .i ((A8.set given6 (bitsOp .and .i64 z_2.a1 7) i9).a1), .i ((A8.set given6 (bitsOp .and .i64 z_2.a1 7) i9).a2), .i ((A8.set given6 (bitsOp .and .i64 z_2.a1 7) i9).a3), .i ((A8.set given6 (bitsOp .and .i64 z_2.a1 7) i9).a4), .i ((A8.set given6 (bitsOp .and .i64 z_2.a1 7) i9).a5), .i ((A8.set given6 (bitsOp .and .i64 z_2.a1 7) i9).a6), .i ((A8.set given6 (bitsOp .and .i64 z_2.a1 7) i9).a7)] 0))] (cut_stA (e := (D.int .i64)) (l := given6.l) (l' := (A8.set given6 (bitsOp .and .i64 z_2.a1 7) i9).l) (y := z_7) (y' := i9) hz_7 (by kernel_rfl) (by kernel_rfl) (A8.setl hz_7) rfl) <| Rd <| kB_nrm <| kS_nrm <| Ro <| Rc 3 [vi i9, vi (IntKind.wrap .i64 (i9 + 1)), vi (IntKind.wrap .i64 (i9 + 1))] <| Rd ?_
     obtain rfl := sj h
     exact ⟨rfl, (), Cz⟩
    | false =>
     replace h := ite_f hb_5 h
     refine Cf <| Runs.skip <| kB_nrm <| kS_nrm <| Ro <| Rc 3 [vi i9, vi (IntKind.wrap .i64 (i9 + 1)), vi (IntKind.wrap .i64 (i9 + 1))] <| Rd ?_
     obtain rfl := sj h
     exact ⟨rfl, (), Cz⟩
  | false =>
   replace h := ite_f hb_2 h
   refine Cf <| Runs.skip <| kB_nrm <| kS_nrm <| Ro <| Rc 3 [vi i9, vi (IntKind.wrap .i64 (i9 + 1)), vi (IntKind.wrap .i64 (i9 + 1))] <| Rd ?_
   obtain rfl := sj h
   exact ⟨rfl, (), Cz⟩
 | false =>
  replace h := ite_f hb_1 h
  refine Cf <| Runs.exit <| kS_exit ?_
  obtain rfl := sj h
  exact ⟨nofun, rfl, (), Cz⟩
theorem hansomlaw39_PoolNames_j52_ok (l_ : (List (A4 Int))) (n_ : Int) (given6 : (A8 Int)) (made7 : (A8 Int)) (b_61 : (List Int)) (l0 : (List (A4 Int))) (n1 : Int) (m5 : (List Module)) (twice8 : Bool) (i12 : Int) (k13 : Int) (t86 : Bool) (v_61 : Nat) (r : (Lp ((A8 Int) × (List Int) × Int) ((A8 Int) × (List Int)))) (h : hansomlaw39_PoolNames_j52 given6 made7 b_61 l0 n1 m5 twice8 i12 k13 t86 = some r) : Runs L F10b52 (hansomlaw39_PoolNames_h52 given6 made7 b_61 l0 n1 m5 twice8 i12 k13 t86 v_61) (kB 3 (kS L F10c61 (LQ [] [0, 1, 5, 6, 7, 8, 11, 12] [[6], [7], [61]] (fun (x : ((A8 Int) × (List Int) × Int)) (g : Nat) => hansomlaw39_PoolNames_h39 given6 x.1 x.2.1 l0 n1 m5 twice8 x.2.2 g) (hansomlaw39_PoolNames_P39 l_ n_ given6 l0 n1 m5 twice8) r))) := by
 unfold hansomlaw39_PoolNames_j52 at h
 cases hb_3 : (t86 : Bool) with
 | true =>
  replace h := ite_t hb_3 h
  refine Ct <| Sq <| Sq <| Ro <| Rc 1 [vi k13] ?_
  obtain ⟨z_4, hz_4, h⟩ := bind_s h
  refine Rt (some 88) (.iaddrA 8 1) [] none [.ptr [7] 0 0, .i k13] (.ptr [7] 0 (0 + (k13).toNat * 1)) [] (cut_iaA (l := made7.l) hz_4 rfl) <| Rt (some 89) (.load none) [] none [.ptr [7] 0 (0 + (k13).toNat * 1)] (.i z_4) [] (cut_ldA (e := (D.int .i64)) (l := made7.l) (y := z_4) hz_4 (by kernel_rfl) (by kernel_rfl)) <| Rc 1 [vb (decide (z_4 < 0))] <| Rk ?_
  cases hb_4 : ((decide (z_4 < 0)) : Bool) with
  | true =>
   replace h := ite_t hb_4 h
   refine Ct <| Ro <| Rc 3 [⟨.ref [61] v_61 0 (List.map (D.int .i64) b_61).length 1, []⟩, vi k13, ⟨.ref [93] 0 0 (List.map (D.int .i64) ([k13] : List Int)).length 1, [([93], some (.arr (List.map (D.int .i64) ([k13] : List Int)) 0 false))]⟩] ?_
   obtain ⟨z_5, hz_5, h⟩ := bind_s h
   refine Rt (some 94) (.append 1 8 false) [] none [.ref [61] v_61 0 (List.map (D.int .i64) b_61).length 1, .ref [93] 0 0 (List.map (D.int .i64) ([k13] : List Int)).length 1] (.ref [61] (v_61 + 1) 0 (List.map (D.int .i64) z_5).length 1) [([61], some (.arr (List.map (D.int .i64) z_5) (v_61 + 1) false))] (cut_appR (e := (D.int .i64)) (l := b_61) (fz := false) (ws := []) (ap_ref (e := (D.int .i64)) (l := ([k13] : List Int)) (fz := false) (by kernel_rfl) (by kernel_rfl) rfl) (fun _ => rfl) hz_5 (by kernel_rfl) (by kernel_rfl) rfl) <| Rc 1 [⟨.ref [61] (v_61 + 1) 0 (List.map (D.int .i64) z_5).length 1, []⟩] <| Rk <| Ro <| Rc 2 [vi k13, vi k13] ?_
   obtain ⟨z_6, hz_6, h⟩ := bind_s h
   refine Rt (some 97) (.iaddrA 8 1) [] none [.ptr [7] 0 0, .i k13] (.ptr [7] 0 (0 + (k13).toNat * 1)) [] (cut_iaA (l := made7.l) hz_6 rfl) <| Rt (some 98) (.load none) [] none [.ptr [7] 0 (0 + (k13).toNat * 1)] (.i z_6) [] (cut_ldA (e := (D.int .i64)) (l := made7.l) (y := z_6) hz_6 (by kernel_rfl) (by kernel_rfl)) <| Rc 2 [⟨.d (.sl (List.map (A4.ag (D.int .i64)) l0)), []⟩, vi i12] ?_
   obtain ⟨z_7, hz_7, h⟩ := bind_s h
   refine Rt (some 101) (.iaddrS 4) [] none [.d (.sl (List.map (A4.ag (D.int .i64)) l0)), .i i12] (.elt (.agg [.int .i64 z_7.a0, .int .i64 z_7.a1, .int .i64 z_7.a2, .int .i64 z_7.a3]) 0) [] (cut_at hz_7 (fun _ => rfl)) <| Rc 4 [⟨.elt (.agg [.int .i64 z_7.a0, .int .i64 z_7.a1, .int .i64 z_7.a2, .int .i64 z_7.a3]) 3, []⟩, vi z_7.a3, vi (bitsOp .and .i64 z_7.a3 63), vi (mxI z_6 (bitsOp .and .i64 z_7.a3 63))] ?_
   obtain ⟨z_8, hz_8, h⟩ := bind_s h
   refine Rt (some 106) (.iaddrA 8 1) [] none [.ptr [7] 0 0, .i k13] (.ptr [7] 0 (0 + (k13).toNat * 1)) [] (cut_iaA (l := made7.l) hz_8 rfl) <| Rt none (.store 1) [] none [.ptr [7] 0 (0 + (k13).toNat * 1), .i (mxI z_6 (bitsOp .and .i64 z_7.a3 63))] (.tup []) [([7], some (.cells [.i ((A8.set made7 k13 (mxI z_6 (bitsOp .and .i64 z_7.a3 63))).a0), .i ((A8.set made7 k13 (mxI z_6 (bitsOp .and .i64 z_7.a3 63))).a1), .i ((A8.set made7 k13 (mxI z_6 (bitsOp .and .i64 z_7.a3 63))).a2), .i ((A8.set made7 k13 (mxI z_6 (bitsOp .and .i64 z_7.a3 63))).a3), .i ((A8.set made7 k13 (mxI z_6 (bitsOp .and .i64 z_7.a3 63))).a4), .i ((A8.set made7 k13 (mxI z_6 (bitsOp .and .i64 z_7.a3 63))).a5), .i ((A8.set made7 k13 (mxI z_6 (bitsOp .and .i64 z_7.a3 63))).a6), .i ((A8.set made7 k13 (mxI z_6 (bitsOp .and .i64 z_7.a3 63))).a7)] 0))] (cut_stA (e := (D.int .i64)) (l := made7.l) (l' := (A8.set made7 k13 (mxI z_6 (bitsOp .and .i64 z_7.a3 63))).l) (y := z_8) (y' := (mxI z_6 (bitsOp .and .i64 z_7.a3 63))) hz_8 (by kernel_rfl) (by kernel_rfl) (A8.setl hz_8) rfl) <| Rd <| kB_nrm <| kS_nrm <| Ro <| Rc 3 [vi i12, vi (IntKind.wrap .i64 (i12 + 1)), vi (IntKind.wrap .i64 (i12 + 1))] <| Rd ?_
   obtain rfl := sj h
   exact ⟨rfl, (v_61 + 1), Cz⟩
  | false =>
   replace h := ite_f hb_4 h
   refine Cf <| Runs.skip <| kS_nrm <| Ro <| Rc 2 [vi k13, vi k13] ?_
   obtain ⟨z_9, hz_9, h⟩ := bind_s h
   refine Rt (some 97) (.iaddrA 8 1) [] none [.ptr [7] 0 0, .i k13] (.ptr [7] 0 (0 + (k13).toNat * 1)) [] (cut_iaA (l := made7.l) hz_9 rfl) <| Rt (some 98) (.load none) [] none [.ptr [7] 0 (0 + (k13).toNat * 1)] (.i z_9) [] (cut_ldA (e := (D.int .i64)) (l := made7.l) (y := z_9) hz_9 (by kernel_rfl) (by kernel_rfl)) <| Rc 2 [⟨.d (.sl (List.map (A4.ag (D.int .i64)) l0)), []⟩, vi i12] ?_
   obtain ⟨z_10, hz_10, h⟩ := bind_s h
   refine Rt (some 101) (.iaddrS 4) [] none [.d (.sl (List.map (A4.ag (D.int .i64)) l0)), .i i12] (.elt (.agg [.int .i64 z_10.a0, .int .i64 z_10.a1, .int .i64 z_10.a2, .int .i64 z_10.a3]) 0) [] (cut_at hz_10 (fun _ => rfl)) <| Rc 4 [⟨.elt (.agg [.int .i64 z_10.a0, .int .i64 z_10.a1, .int .i64 z_10.a2, .int .i64 z_10.a3]) 3, []⟩, vi z_10.a3, vi (bitsOp .and .i64 z_10.a3 63), vi (mxI z_9 (bitsOp .and .i64 z_10.a3 63))] ?_
   obtain ⟨z_11, hz_11, h⟩ := bind_s h
   refine Rt (some 106) (.iaddrA 8 1) [] none [.ptr [7] 0 0, .i k13] (.ptr [7] 0 (0 + (k13).toNat * 1)) [] (cut_iaA (l := made7.l) hz_11 rfl) <| Rt none (.store 1) [] none [.ptr [7] 0 (0 + (k13).toNat * 1), .i (mxI z_9 (bitsOp .and .i64 z_10.a3 63))] (.tup []) [([7], some (.cells [.i ((A8.set made7 k13 (mxI z_9 (bitsOp .and .i64 z_10.a3 63))).a0), .i ((A8.set made7 k13 (mxI z_9 (bitsOp .and .i64 z_10.a3 63))).a1), .i ((A8.set made7 k13 (mxI z_9 (bitsOp .and .i64 z_10.a3 63))).a2), .i ((A8.set made7 k13 (mxI z_9 (bitsOp .and .i64 z_10.a3 63))).a3), .i ((A8.set made7 k13 (mxI z_9 (bitsOp .and .i64 z_10.a3 63))).a4), .i ((A8.set made7 k13 (mxI z_9 (bitsOp .and .i64 z_10.a3 63))).a5), .i ((A8.set made7 k13 (mxI z_9 (bitsOp .and .i64 z_10.a3 63))).a6), .i ((A8.set made7 k13 (mxI z_9 (bitsOp .and .i64 z_10.a3 63))).a7)] 0))] (cut_stA (e := (D.int .i64)) (l := made7.l) (l' := (A8.set made7 k13 (mxI z_9 (bitsOp .and .i64 z_10.a3 63))).l) (y := z_11) (y' := (mxI z_9 (bitsOp .and .i64 z_10.a3 63))) hz_11 (by kernel_rfl) (by kernel_rfl) (A8.setl hz_11) rfl) <| Rd <| kB_nrm <| kS_nrm <| Ro <| Rc 3 [vi i12, vi (IntKind.wrap .i64 (i12 + 1)), vi (IntKind.wrap .i64 (i12 + 1))] <| Rd ?_
   obtain rfl := sj h
   exact ⟨rfl, v_61, Cz⟩
 | false =>
  replace h := ite_f hb_3 h
  refine Cf <| Runs.skip <| kB_nrm <| kS_nrm <| Ro <| Rc 3 [vi i12, vi (IntKind.wrap .i64 (i12 + 1)), vi (IntKind.wrap .i64 (i12 + 1))] <| Rd ?_
  obtain rfl := sj h
  exact ⟨rfl, v_61, Cz⟩
theorem hansomlaw39_PoolNames_l39_ok (l_ : (List (A4 Int))) (n_ : Int) (given6 : (A8 Int)) (made7 : (A8 Int)) (b_61 : (List Int)) (l0 : (List (A4 Int))) (n1 : Int) (m5 : (List Module)) (twice8 : Bool) (i12 : Int) (v_61 : Nat) (r : (Lp ((A8 Int) × (List Int) × Int) ((A8 Int) × (List Int)))) (h : hansomlaw39_PoolNames_l39 given6 made7 b_61 l0 n1 m5 twice8 i12 = some r) : Runs L F10l39 (hansomlaw39_PoolNames_h39 given6 made7 b_61 l0 n1 m5 twice8 i12 v_61) (LQ [] [0, 1, 5, 6, 7, 8, 11, 12] [[6], [7], [61]] (fun (x : ((A8 Int) × (List Int) × Int)) (g : Nat) => hansomlaw39_PoolNames_h39 given6 x.1 x.2.1 l0 n1 m5 twice8 x.2.2 g) (hansomlaw39_PoolNames_P39 l_ n_ given6 l0 n1 m5 twice8) r) := by
 unfold hansomlaw39_PoolNames_l39 at h
 refine Sq <| Sq <| Ro <| Rc 2 [vi i12, ⟨.d (.sl (List.map Module.d m5)), []⟩] <| Rt (some 64) .lenL [] none [.d (.sl (List.map Module.d m5))] (.i (m5.length : Int)) [] (cut_len _) <| Rc 1 [vb (decide (i12 < (m5.length : Int)))] <| Rk ?_
 cases hb_1 : ((decide (i12 < (m5.length : Int))) : Bool) with
 | true =>
  replace h := ite_t hb_1 h
  refine Ct <| Runs.skip <| kS_nrm <| Sq <| Runs.block <| Sq <| Ro <| Rc 2 [⟨.d (.sl (List.map (A4.ag (D.int .i64)) l0)), []⟩, vi i12] ?_
  obtain ⟨z_1, hz_1, h⟩ := bind_s h
  refine Rt (some 70) (.iaddrS 4) [] none [.d (.sl (List.map (A4.ag (D.int .i64)) l0)), .i i12] (.elt (.agg [.int .i64 z_1.a0, .int .i64 z_1.a1, .int .i64 z_1.a2, .int .i64 z_1.a3]) 0) [] (cut_at hz_1 (fun _ => rfl)) <| Rc 4 [⟨.elt (.agg [.int .i64 z_1.a0, .int .i64 z_1.a1, .int .i64 z_1.a2, .int .i64 z_1.a3]) 2, []⟩, vi z_1.a2, vi (bitsOp .and .i64 z_1.a2 7), vi (bitsOp .and .i64 z_1.a2 7)] <| Rk <| Sq <| Ro <| Rc 2 [⟨.d (.sl (List.map (A4.ag (D.int .i64)) l0)), []⟩, vi i12] ?_
  obtain ⟨z_2, hz_2, h⟩ := bind_s h
  refine Rt (some 76) (.iaddrS 4) [] none [.d (.sl (List.map (A4.ag (D.int .i64)) l0)), .i i12] (.elt (.agg [.int .i64 z_2.a0, .int .i64 z_2.a1, .int .i64 z_2.a2, .int .i64 z_2.a3]) 0) [] (cut_at hz_2 (fun _ => rfl)) <| Rc 5 [⟨.elt (.agg [.int .i64 z_2.a0, .int .i64 z_2.a1, .int .i64 z_2.a2, .int .i64 z_2.a3]) 2, []⟩, vi z_2.a2, vi (bitsOp .and .i64 z_2.a2 8), vb (decide ((bitsOp .and .i64 z_2.a2 8) > 0)), vb (decide ((bitsOp .and .i64 z_2.a2 8) > 0))] ?_
  cases hb_2 : ((decide ((bitsOp .and .i64 z_2.a2 8) > 0)) : Bool) with
  | true =>
   replace h := ite_t hb_2 h
   refine Rc 1 [vi (bitsOp .and .i64 z_1.a2 7)] ?_
   obtain ⟨z_3, hz_3, h⟩ := bind_s h
   refine Rt (some 83) (.iaddrA 8 1) [] none [.ptr [6] 0 0, .i (bitsOp .and .i64 z_1.a2 7)] (.ptr [6] 0 (0 + ((bitsOp .and .i64 z_1.a2 7)).toNat * 1)) [] (cut_iaA (l := given6.l) hz_3 rfl) <| Rt (some 84) (.load none) [] none [.ptr [6] 0 (0 + ((bitsOp .and .i64 z_1.a2 7)).toNat * 1)] (.i z_3) [] (cut_ldA (e := (D.int .i64)) (l := given6.l) (y := z_3) hz_3 (by kernel_rfl) (by kernel_rfl)) <| Rc 2 [vb (decide (z_3 < 0)), vb (decide (z_3 < 0))] <| Rk <| Runs.canon (hansomlaw39_PoolNames_h52 given6 made7 b_61 l0 n1 m5 twice8 i12 (bitsOp .and .i64 z_1.a2 7) (decide (z_3 < 0)) v_61) Cz ?_
   exact hansomlaw39_PoolNames_j52_ok l_ n_ given6 made7 b_61 l0 n1 m5 twice8 i12 (bitsOp .and .i64 z_1.a2 7) (decide (z_3 < 0)) v_61 r h
  | false =>
   replace h := ite_f hb_2 h
   refine Rc 5 [vn, vn, vn, vn, vb false] <| Rk <| Runs.canon (hansomlaw39_PoolNames_h52 given6 made7 b_61 l0 n1 m5 twice8 i12 (bitsOp .and .i64 z_1.a2 7) false v_61) Cz ?_
   exact hansomlaw39_PoolNames_j52_ok l_ n_ given6 made7 b_61 l0 n1 m5 twice8 i12 (bitsOp .and .i64 z_1.a2 7) false v_61 r h
 | false =>
  replace h := ite_f hb_1 h
  refine Cf <| Runs.exit <| kS_exit ?_
  obtain rfl := sj h
  exact ⟨nofun, rfl, v_61, Cz⟩
theorem hansomlaw39_PoolNames_l76_ok (l_ : (List (A4 Int))) (n_ : Int) (given6 : (A8 Int)) (made7 : (A8 Int)) (b_61 : (List Int)) (l0 : (List (A4 Int))) (n1 : Int) (m5 : (List Module)) (x14 : (List Ext)) (i15 : Int) (v_61 : Nat) (r : (Lp Int (Bool ⊕ Unit))) (h : hansomlaw39_PoolNames_l76 given6 made7 b_61 l0 n1 m5 x14 i15 = some r) : Runs L F10l76 (hansomlaw39_PoolNames_h76 given6 made7 b_61 l0 n1 m5 x14 i15 v_61) (LQ [.frz 14] [0, 1, 5, 6, 7, 11, 14, 15] [[6], [7], [61]] (fun (x : Int) (g : Nat) => hansomlaw39_PoolNames_h76 given6 made7 b_61 l0 n1 m5 x14 x g) (hansomlaw39_PoolNames_P76 l_ n_ given6 made7 b_61 l0 n1 m5 x14) r) := by
 unfold hansomlaw39_PoolNames_l76 at h
 refine Sq <| Sq <| Ro <| Rc 2 [vi i15, ⟨.d (.sl (List.map Ext.d x14)), []⟩] <| Rt (some 122) .lenL [] none [.d (.sl (List.map Ext.d x14))] (.i (x14.length : Int)) [] (cut_len _) <| Rc 1 [vb (decide (i15 < (x14.length : Int)))] <| Rk ?_
 cases hb_3 : ((decide (i15 < (x14.length : Int))) : Bool) with
 | true =>
  replace h := ite_t hb_3 h
  refine Ct <| Runs.skip <| kS_nrm <| Sq <| Runs.block <| Sq <| Ro <| Rc 2 [⟨.d (.sl (List.map Ext.d x14)), []⟩, vi i15] ?_
  obtain ⟨z_1, hz_1, h⟩ := bind_s h
  refine Rt (some 128) (.iaddrS 3) [] none [.d (.sl (List.map Ext.d x14)), .i i15] (.elt (Ext.d z_1) 0) [] (cut_at hz_1 (fun _ => rfl)) <| Rc 3 [⟨.d (Ext.d z_1), []⟩, ⟨.ref [61] v_61 0 (List.map (D.int .i64) b_61).length 1, []⟩, vi i15] ?_
  obtain ⟨z_2, hz_2, h⟩ := bind_s h
  refine Rt (some 132) (.iaddrS 1) [] none [.ref [61] v_61 0 (List.map (D.int .i64) b_61).length 1, .i i15] (.eref [61] v_61 (0 + (i15).toNat) 0) [] (cut_atR (e := (D.int .i64)) (l := b_61) hz_2 rfl) <| Rt (some 133) (.load none) [] none [.eref [61] v_61 (0 + (i15).toNat) 0] (.i z_2) [] (cut_loadR (e := (D.int .i64)) (l := b_61) (fz := false) (y := z_2) (by kernel_rfl) hz_2 (by kernel_rfl) (by kernel_rfl)) ?_
  obtain ⟨r_4, hr_4, h⟩ := bind_s h
  have hc_4 := hansomlaw39_name_L z_2 r_4 hr_4
  refine Rt (some 134) (.callf 39) [] (some []) [.i z_2] (.d (.str r_4)) [] (cc hc_4) <| Rc 2 [⟨.ref [61] v_61 0 (List.map (D.int .i64) b_61).length 1, []⟩, vi i15] ?_
  obtain ⟨z_3, hz_3, h⟩ := bind_s h
  refine Rt (some 137) (.iaddrS 1) [] none [.ref [61] v_61 0 (List.map (D.int .i64) b_61).length 1, .i i15] (.eref [61] v_61 (0 + (i15).toNat) 0) [] (cut_atR (e := (D.int .i64)) (l := b_61) hz_3 rfl) <| Rt (some 138) (.load none) [[134]] none [.eref [61] v_61 (0 + (i15).toNat) 0] (.i z_3) [] (cut_loadR (e := (D.int .i64)) (l := b_61) (fz := false) (y := z_3) (by kernel_rfl) hz_3 (by kernel_rfl) (by kernel_rfl)) ?_
  obtain ⟨z_4, hz_4, h⟩ := bind_s h
  refine Rt (some 139) (.iaddrA 8 1) [] none [.ptr [7] 0 0, .i z_3] (.ptr [7] 0 (0 + (z_3).toNat * 1)) [] (cut_iaA (l := made7.l) hz_4 rfl) <| Rt (some 140) (.load none) [[134]] none [.ptr [7] 0 (0 + (z_3).toNat * 1)] (.i z_4) [] (cut_ldA (e := (D.int .i64)) (l := made7.l) (y := z_4) hz_4 (by kernel_rfl) (by kernel_rfl)) <| Rc 3 [vu (IntKind.wrap .u32 z_4), ⟨.d (.agg [.str r_4, .int .i64 98, .int .u32 (IntKind.wrap .u32 z_4)]), []⟩, vb (!(z_1.Name == r_4 && (z_1.Com == 98 && (z_1.Len == (IntKind.wrap .u32 z_4) && true))))] <| Rk ?_
  cases hb_4 : ((!(z_1.Name == r_4 && (z_1.Com == 98 && (z_1.Len == (IntKind.wrap .u32 z_4) && true)))) : Bool) with
  | true =>
   replace h := ite_t hb_4 h
   refine Ct <| Sq <| Ro <| Rc 1 [vb false] <| Rk <| Runs.ret <| kB_ret <| kS_ret ?_
   obtain rfl := sj h
   exact ⟨nofun, rfl, (by kernel_rfl)⟩
  | false =>
   replace h := ite_f hb_4 h
   refine Cf <| Runs.skip <| kB_nrm <| kS_nrm <| Ro <| Rc 3 [vi i15, vi (IntKind.wrap .i64 (i15 + 1)), vi (IntKind.wrap .i64 (i15 + 1))] <| Rd ?_
   obtain rfl := sj h
   exact ⟨rfl, v_61, (Canon.same (by kernel_rfl) Cz)⟩
 | false =>
  replace h := ite_f hb_3 h
  refine Cf <| Runs.exit <| kS_exit ?_
  obtain rfl := sj h
  exact ⟨nofun, rfl, (), Cz⟩
theorem hansomlaw39_PoolNames_l101_ok (l_ : (List (A4 Int))) (n_ : Int) (given6 : (A8 Int)) (made7 : (A8 Int)) (seen17 : (A8 Bool)) (l0 : (List (A4 Int))) (n1 : Int) (m5 : (List Module)) (x14 : (List Ext)) (lost16 : (List (List UInt8))) (at18 : Int) (i19 : Int) (r : (Lp ((A8 Bool) × Int × Int) (Bool ⊕ Int))) (h : hansomlaw39_PoolNames_l101 given6 made7 seen17 l0 n1 m5 x14 lost16 at18 i19 = some r) : Runs L F10l101 (hansomlaw39_PoolNames_h101 given6 made7 seen17 l0 n1 m5 x14 lost16 at18 i19) (LQ [] [0, 1, 5, 6, 7, 14, 16, 17, 18, 19] [[6], [7], [17]] (fun (x : ((A8 Bool) × Int × Int)) (g : Unit) => hansomlaw39_PoolNames_h101 given6 made7 x.1 l0 n1 m5 x14 lost16 x.2.1 x.2.2) (hansomlaw39_PoolNames_P101 l_ n_ given6 made7 l0 n1 m5 x14 lost16) r) := by
 unfold hansomlaw39_PoolNames_l101 at h
 refine Sq <| Sq <| Ro <| Rc 2 [vi i19, ⟨.d (.sl (List.map Module.d m5)), []⟩] <| Rt (some 149) .lenL [] none [.d (.sl (List.map Module.d m5))] (.i (m5.length : Int)) [] (cut_len _) <| Rc 1 [vb (decide (i19 < (m5.length : Int)))] <| Rk ?_
 cases hb_3 : ((decide (i19 < (m5.length : Int))) : Bool) with
 | true =>
  replace h := ite_t hb_3 h
  refine Ct <| Runs.skip <| kS_nrm <| Sq <| Runs.block <| Sq <| Ro <| Rc 2 [⟨.d (.sl (List.map (A4.ag (D.int .i64)) l0)), []⟩, vi i19] ?_
  obtain ⟨z_1, hz_1, h⟩ := bind_s h
  refine Rt (some 155) (.iaddrS 4) [] none [.d (.sl (List.map (A4.ag (D.int .i64)) l0)), .i i19] (.elt (.agg [.int .i64 z_1.a0, .int .i64 z_1.a1, .int .i64 z_1.a2, .int .i64 z_1.a3]) 0) [] (cut_at hz_1 (fun _ => rfl)) <| Rc 4 [⟨.elt (.agg [.int .i64 z_1.a0, .int .i64 z_1.a1, .int .i64 z_1.a2, .int .i64 z_1.a3]) 0, []⟩, vi z_1.a0, vi (bitsOp .and .i64 z_1.a0 7), vi (bitsOp .and .i64 z_1.a0 7)] <| Rk <| Sq <| Sq <| Ro <| Rc 1 [vi (bitsOp .and .i64 z_1.a0 7)] ?_
  obtain ⟨z_2, hz_2, h⟩ := bind_s h
  refine Rt (some 160) (.iaddrA 8 1) [] none [.ptr [6] 0 0, .i (bitsOp .and .i64 z_1.a0 7)] (.ptr [6] 0 (0 + ((bitsOp .and .i64 z_1.a0 7)).toNat * 1)) [] (cut_iaA (l := given6.l) hz_2 rfl) <| Rt (some 161) (.load none) [] none [.ptr [6] 0 (0 + ((bitsOp .and .i64 z_1.a0 7)).toNat * 1)] (.i z_2) [] (cut_ldA (e := (D.int .i64)) (l := given6.l) (y := z_2) hz_2 (by kernel_rfl) (by kernel_rfl)) <| Rc 2 [vb (decide (z_2 ≥ 0)), vb (decide (z_2 ≥ 0))] ?_
  cases hb_4 : ((decide (z_2 ≥ 0)) : Bool) with
  | true =>
   replace h := ite_t hb_4 h
   refine Rc 10 [vn, vn, vn, vn, vb true, vb true, vn, vn, vn, vb true] <| Rk <| Ct <| Runs.exit <| kS_exit <| kB_hit <| kS_nrm <| Ro <| Rc 3 [vi i19, vi (IntKind.wrap .i64 (i19 + 1)), vi (IntKind.wrap .i64 (i19 + 1))] <| Rd ?_
   obtain rfl := sj h
   exact ⟨rfl, (), Cz⟩
  | false =>
   replace h := ite_f hb_4 h
   refine Rc 1 [vi (bitsOp .and .i64 z_1.a0 7)] ?_
   obtain ⟨z_3, hz_3, h⟩ := bind_s h
   refine Rt (some 165) (.iaddrA 8 1) [] none [.ptr [7] 0 0, .i (bitsOp .and .i64 z_1.a0 7)] (.ptr [7] 0 (0 + ((bitsOp .and .i64 z_1.a0 7)).toNat * 1)) [] (cut_iaA (l := made7.l) hz_3 rfl) <| Rt (some 166) (.load none) [] none [.ptr [7] 0 (0 + ((bitsOp .and .i64 z_1.a0 7)).toNat * 1)] (.i z_3) [] (cut_ldA (e := (D.int .i64)) (l := made7.l) (y := z_3) hz_3 (by kernel_rfl) (by kernel_rfl)) <| Rc 3 [vb (decide (z_3 ≥ 0)), vb (decide (z_3 ≥ 0)), vb (decide (z_3 ≥ 0))] ?_
   cases hb_5 : ((decide (z_3 ≥ 0)) : Bool) with
   | true =>
    replace h := ite_t hb_5 h
    refine Rc 4 [vn, vn, vn, vb true] <| Rk <| Ct <| Runs.exit <| kS_exit <| kB_hit <| kS_nrm <| Ro <| Rc 3 [vi i19, vi (IntKind.wrap .i64 (i19 + 1)), vi (IntKind.wrap .i64 (i19 + 1))] <| Rd ?_
    obtain rfl := sj h
    exact ⟨rfl, (), Cz⟩
   | false =>
    replace h := ite_f hb_5 h
    refine Rc 1 [vi (bitsOp .and .i64 z_1.a0 7)] ?_
    obtain ⟨z_4, hz_4, h⟩ := bind_s h
    refine Rt (some 171) (.iaddrA 8 1) [] none [.ptr [17] 0 0, .i (bitsOp .and .i64 z_1.a0 7)] (.ptr [17] 0 (0 + ((bitsOp .and .i64 z_1.a0 7)).toNat * 1)) [] (cut_iaA (l := seen17.l) hz_4 rfl) <| Rt (some 172) (.load none) [] none [.ptr [17] 0 (0 + ((bitsOp .and .i64 z_1.a0 7)).toNat * 1)] (.b z_4) [] (cut_ldA (e := D.bool) (l := seen17.l) (y := z_4) hz_4 (by kernel_rfl) (by kernel_rfl)) <| Rc 1 [vb z_4] <| Rk ?_
    cases hb_6 : (z_4 : Bool) with
    | true =>
     replace h := ite_t hb_6 h
     refine Ct <| Runs.exit <| kS_exit <| kB_hit <| kS_nrm <| Ro <| Rc 3 [vi i19, vi (IntKind.wrap .i64 (i19 + 1)), vi (IntKind.wrap .i64 (i19 + 1))] <| Rd ?_
     obtain rfl := sj h
     exact ⟨rfl, (), Cz⟩
    | false =>
     replace h := ite_f hb_6 h
     refine Cf <| Runs.skip <| kS_nrm <| Sq <| Ro <| Rc 1 [vi (bitsOp .and .i64 z_1.a0 7)] ?_
     obtain ⟨z_5, hz_5, h⟩ := bind_s h
     refine Rt (some 175) (.iaddrA 8 1) [] none [.ptr [17] 0 0, .i (bitsOp .and .i64 z_1.a0 7)] (.ptr [17] 0 (0 + ((bitsOp .and .i64 z_1.a0 7)).toNat * 1)) [] (cut_iaA (l := seen17.l) hz_5 rfl) <| Rt none (.store 1) [] none [.ptr [17] 0 (0 + ((bitsOp .and .i64 z_1.a0 7)).toNat * 1), .b true] (.tup []) [([17], some (.cells [.b ((A8.set seen17 (bitsOp .and .i64 z_1.a0 7) true).a0), .b ((A8.set seen17 (bitsOp .and .i64 z_1.a0 7) true).a1), .b ((A8.set seen17 (bitsOp .and .i64 z_1.a0 7) true).a2), .b ((A8.set seen17 (bitsOp .and .i64 z_1.a0 7) true).a3), .b ((A8.set seen17 (bitsOp .and .i64 z_1.a0 7) true).a4), .b ((A8.set seen17 (bitsOp .and .i64 z_1.a0 7) true).a5), .b ((A8.set seen17 (bitsOp .and .i64 z_1.a0 7) true).a6), .b ((A8.set seen17 (bitsOp .and .i64 z_1.a0 7) true).a7)] 0))] (cut_stA (e := D.bool) (l := seen17.l) (l' := (A8.set seen17 (bitsOp .and .i64 z_1.a0 7) true).l) (y := z_5) (y' := true) hz_5 (by kernel_rfl) (by kernel_rfl) (A8.setl hz_5) rfl) <| Rk <| Sq <| Sq <| Ro <| Rc 2 [vi at18, ⟨.d (.sl (List.map D.str lost16)), []⟩] <| Rt (some 178) .lenL [] none [.d (.sl (List.map D.str lost16))] (.i (lost16.length : Int)) [] (cut_len _) <| Rc 2 [vb (decide (at18 ≥ (lost16.length : Int))), vb (decide (at18 ≥ (lost16.length : Int)))] ?_
     cases hb_7 : ((decide (at18 ≥ (lost16.length : Int))) : Bool) with
     | true =>
      replace h := ite_t hb_7 h
      refine Rc 8 [vn, vn, vn, vn, vn, vn, vn, vb true] <| Rk <| Ct <| Sq <| Ro <| Rc 1 [vb false] <| Rk <| Runs.ret <| kS_ret <| kB_ret <| kS_ret ?_
      obtain rfl := sj h
      exact ⟨nofun, rfl, (by kernel_rfl)⟩
     | false =>
      replace h := ite_f hb_7 h
      refine Rc 2 [⟨.d (.sl (List.map D.str lost16)), []⟩, vi at18] ?_
      obtain ⟨z_6, hz_6, h⟩ := bind_s h
      refine Rt (some 183) (.iaddrS 1) [] none [.d (.sl (List.map D.str lost16)), .i at18] (.elt (.str z_6) 0) [] (cut_at hz_6 (fun _ => rfl)) <| Rc 2 [⟨.d (.str z_6), []⟩, vi (bitsOp .and .i64 z_1.a0 7)] ?_
      obtain ⟨r_5, hr_5, h⟩ := bind_s h
      have hc_5 := hansomlaw39_name_L (bitsOp .and .i64 z_1.a0 7) r_5 hr_5
      refine Rt (some 186) (.callf 39) [] (some []) [.i (bitsOp .and .i64 z_1.a0 7)] (.d (.str r_5)) [] (cc hc_5) <| Rc 2 [vb (z_6 != r_5), vb (z_6 != r_5)] <| Rk ?_
      cases hb_8 : ((z_6 != r_5) : Bool) with
      | true =>
       replace h := ite_t hb_8 h
       refine Ct <| Sq <| Ro <| Rc 1 [vb false] <| Rk <| Runs.ret <| kS_ret <| kB_ret <| kS_ret ?_
       obtain rfl := sj h
       exact ⟨nofun, rfl, (by kernel_rfl)⟩
      | false =>
       replace h := ite_f hb_8 h
       refine Cf <| Runs.skip <| kS_nrm <| Ro <| Rc 3 [vi at18, vi (IntKind.wrap .i64 (at18 + 1)), vi (IntKind.wrap .i64 (at18 + 1))] <| Rd <| kB_nrm <| kS_nrm <| Ro <| Rc 3 [vi i19, vi (IntKind.wrap .i64 (i19 + 1)), vi (IntKind.wrap .i64 (i19 + 1))] <| Rd ?_
       obtain rfl := sj h
       exact ⟨rfl, (), Cz⟩
 | false =>
  replace h := ite_f hb_3 h
  refine Cf <| Runs.exit <| kS_exit ?_
  obtain rfl := sj h
  exact ⟨nofun, rfl, (), Cz⟩
theorem hansomlaw39_PoolNames_ok (l_ : (List (A4 Int))) (n_ : Int) (r : Bool) (h : hansomlaw39_PoolNames l_ n_ = some r) : Runs L F10.body ⟨tmOf [.d (.sl (List.map (A4.ag (D.int .i64)) l_)), .i n_] 0, updW (fun _ => none) []⟩ (hansomlaw39_PoolNames_Q l_ n_ r) := by
 unfold hansomlaw39_PoolNames at h
 refine Sq <| Ro <| Rc 1 [vb false] <| Rk <| Sq <| Ro <| Rc 1 [⟨.d (.sl (List.map (A4.ag (D.int .i64)) l_)), []⟩] ?_
 obtain ⟨r_1, hr_1, h⟩ := bind_s h
 have hc_1 := hansomlaw39_mods_L l_ r_1 hr_1
 refine Rt (some 25) (.callf 36) [] none [.d (.sl (List.map (A4.ag (D.int .i64)) l_))] (.d (.sl (List.map Module.d r_1))) [] (cc hc_1) <| Rc 1 [⟨.d (.sl (List.map Module.d r_1)), []⟩] <| Rk <| Sq <| Ro <| Rc 7 [⟨.d (.agg [.int .i64 (-1), .int .i64 (-1), .int .i64 (-1), .int .i64 (-1), .int .i64 (-1), .int .i64 (-1), .int .i64 (-1), .int .i64 (-1)]), []⟩, ⟨.d (.agg [.int .i64 (-1), .int .i64 (-1), .int .i64 (-1), .int .i64 (-1), .int .i64 (-1), .int .i64 (-1), .int .i64 (-1), .int .i64 (-1)]), []⟩, ⟨.ptr [6] 0 0, [([6], some (.cells [.i 0, .i 0, .i 0, .i 0, .i 0, .i 0, .i 0, .i 0] 0))]⟩, ⟨.ptr [7] 0 0, [([7], some (.cells [.i 0, .i 0, .i 0, .i 0, .i 0, .i 0, .i 0, .i 0] 0))]⟩, ⟨.tup [], [([6], some (.cells [.i (-1), .i (-1), .i (-1), .i (-1), .i (-1), .i (-1), .i (-1), .i (-1)] 0))]⟩, ⟨.tup [], [([7], some (.cells [.i (-1), .i (-1), .i (-1), .i (-1), .i (-1), .i (-1), .i (-1), .i (-1)] 0))]⟩, vb false] <| Rk <| Sq <| Sq <| Ro <| Rc 1 [vi 0] <| Rk ?_
 refine Runs.block ?_
 obtain ⟨e_1, he_1, h⟩ := bind_s h
 refine Runs.loop (fun x : ((A8 Int) × Bool × Int) => hansomlaw39_PoolNames_l10 x.1 ({ a0 := (-1), a1 := (-1), a2 := (-1), a3 := (-1), a4 := (-1), a5 := (-1), a6 := (-1), a7 := (-1) } : (A8 Int)) l_ n_ r_1 x.2.1 x.2.2) (fun (x : ((A8 Int) × Bool × Int)) (g : Unit) => hansomlaw39_PoolNames_h10 x.1 ({ a0 := (-1), a1 := (-1), a2 := (-1), a3 := (-1), a4 := (-1), a5 := (-1), a6 := (-1), a7 := (-1) } : (A8 Int)) l_ n_ r_1 x.2.1 x.2.2) (hansomlaw39_PoolNames_P10 l_ n_ ({ a0 := (-1), a1 := (-1), a2 := (-1), a3 := (-1), a4 := (-1), a5 := (-1), a6 := (-1), a7 := (-1) } : (A8 Int)) l_ n_ r_1) (fun x g r hr => hansomlaw39_PoolNames_l10_ok l_ n_ x.1 ({ a0 := (-1), a1 := (-1), a2 := (-1), a3 := (-1), a4 := (-1), a5 := (-1), a6 := (-1), a7 := (-1) } : (A8 Int)) l_ n_ r_1 x.2.1 x.2.2  r hr) () he_1 Cz ?_
 rintro ⟨o, s⟩ hp
 obtain ⟨ho, g_1, hk_1⟩ := hp
 have ho' : o = .exit 0 := ho
 subst ho'
 refine kB_hit <| kS_nrm <| Runs.canon _ hk_1 <| Sq <| Ro <| Rc 2 [⟨.ref [61] 0 0 (List.map (D.int .i64) ([] : List Int)).length 1, [([61], some (.arr (List.map (D.int .i64) ([] : List Int)) 0 false))]⟩, ⟨.ref [61] 0 0 (List.map (D.int .i64) ([] : List Int)).length 1, []⟩] <| Rk <| Sq <| Sq <| Ro <| Rc 1 [vi 0] <| Rk <| Runs.block ?_
 obtain ⟨e_2, he_2, h⟩ := bind_s h
 refine Runs.loop (fun x : ((A8 Int) × (List Int) × Int) => hansomlaw39_PoolNames_l39 e_1.1 x.1 x.2.1 l_ n_ r_1 e_1.2 x.2.2) (fun (x : ((A8 Int) × (List Int) × Int)) (g : Nat) => hansomlaw39_PoolNames_h39 e_1.1 x.1 x.2.1 l_ n_ r_1 e_1.2 x.2.2 g) (hansomlaw39_PoolNames_P39 l_ n_ e_1.1 l_ n_ r_1 e_1.2) (fun x g r hr => hansomlaw39_PoolNames_l39_ok l_ n_ e_1.1 x.1 x.2.1 l_ n_ r_1 e_1.2 x.2.2 g r hr) 0 he_2 Cz ?_
 rintro ⟨o, s⟩ hp
 obtain ⟨ho, g_2, hk_2⟩ := hp
 have ho' : o = .exit 2 := ho
 subst ho'
 refine kB_hit <| kS_nrm <| Runs.canon _ hk_2 <| Sq <| Ro <| Rc 1 [⟨.d (.sl (List.map Module.d r_1)), []⟩] ?_
 obtain ⟨r_2, hr_2, h⟩ := bind_s h
 have hc_2 := pool_Made_L r_1 r_2 hr_2
 refine Rt (some 108) (.callf 37) [] none [.d (.sl (List.map Module.d r_1))] (.ref [108] 0 0 (List.map Ext.d r_2).length 3) [([108], some (.arr (List.map Ext.d r_2) 0 false))] (cut_call (call_of (ws := []) (us := []) (by kernel_rfl) (gives_cons (ws := []) (give_same (by kernel_rfl)) gives_nil) hc_2 (by kernel_rfl) (by kernel_rfl))) <| Rc 1 [⟨.ref [108] 0 0 (List.map Ext.d r_2).length 3, []⟩] <| Rk <| Sq <| Sq <| Ro <| Rc 1 [⟨.ref [108] 0 0 (List.map Ext.d r_2).length 3, []⟩] <| Rt (some 110) .lenL [] none [.ref [108] 0 0 (List.map Ext.d r_2).length 3] (.i (r_2.length : Int)) [] (cut_lenR (e := Ext.d) r_2 rfl) <| Rc 1 [⟨.ref [61] g_2 0 (List.map (D.int .i64) e_2.2).length 1, []⟩] <| Rt (some 112) .lenL [] none [.ref [61] g_2 0 (List.map (D.int .i64) e_2.2).length 1] (.i (e_2.2.length : Int)) [] (cut_lenR (e := (D.int .i64)) e_2.2 rfl) <| Rc 2 [vb ((r_2.length : Int) != (e_2.2.length : Int)), vb ((r_2.length : Int) != (e_2.2.length : Int))] ?_
 cases hb_1 : (((r_2.length : Int) != (e_2.2.length : Int)) : Bool) with
 | true =>
  replace h := ite_t hb_1 h
  refine Rc 5 [vn, vn, vn, vn, vb true] <| Rk <| Ct <| Sq <| Ro <| Rc 1 [vb false] <| Rk <| Runs.ret <| kS_ret ?_
  cases h
  exact Fq
 | false =>
  replace h := ite_f hb_1 h
  refine Rc 1 [⟨.d (.sl (List.map Module.d r_1)), []⟩] ?_
  obtain ⟨r_3, hr_3, h⟩ := bind_s h
  have hc_3 := pool_Twice_L r_1 r_3 hr_3
  refine Rt (some 116) (.callf 38) [] none [.d (.sl (List.map Module.d r_1))] (.b r_3) [] (cc hc_3) <| Rc 3 [vb e_1.2, vb (r_3 != e_1.2), vb (r_3 != e_1.2)] <| Rk ?_
  cases hb_2 : ((r_3 != e_1.2) : Bool) with
  | true =>
   replace h := ite_t hb_2 h
   refine Ct <| Sq <| Ro <| Rc 1 [vb false] <| Rk <| Runs.ret <| kS_ret ?_
   cases h
   exact Fq
  | false =>
   replace h := ite_f hb_2 h
   refine Cf <| Runs.skip <| kS_nrm <| Sq <| Sq <| Ro <| Rc 1 [vi 0] <| Rk <| Runs.block ?_
   obtain ⟨e_3, he_3, h⟩ := bind_s h
   refine Runs.loop (fun x : Int => hansomlaw39_PoolNames_l76 e_1.1 e_2.1 e_2.2 l_ n_ r_1 r_2 x) (fun (x : Int) (g : Nat) => hansomlaw39_PoolNames_h76 e_1.1 e_2.1 e_2.2 l_ n_ r_1 r_2 x g) (hansomlaw39_PoolNames_P76 l_ n_ e_1.1 e_2.1 e_2.2 l_ n_ r_1 r_2) (fun x g r hr => hansomlaw39_PoolNames_l76_ok l_ n_ e_1.1 e_2.1 e_2.2 l_ n_ r_1 r_2 x g r hr) g_2 he_3 (Canon.cons (frz_ref (e := Ext.d) (l := r_2) (id := [108]) (v := 0) (n := 3) (fz := false) (by kernel_rfl) (by kernel_rfl) rfl) Cz) ?_
   rintro ⟨o, s⟩ hp
   cases e_3 with
   | inl e_4 =>
    obtain ⟨ho, hf⟩ := hp
    have ho' : o = .ret := ho
    subst ho'
    refine kB_ret <| kS_ret ?_
    obtain rfl := sj h
    exact ⟨Out.ret_ne, hf⟩
   | inr e_5 =>
    obtain ⟨ho, g_3, hk_3⟩ := hp
    have ho' : o = .exit 4 := ho
    subst ho'
    refine kB_hit <| kS_nrm <| Runs.canon _ hk_3 <| Sq <| Ro <| Rc 1 [⟨.d (.sl (List.map Module.d r_1)), []⟩] ?_
    obtain ⟨r_4, hr_4, h⟩ := bind_s h
    have hc_4 := pool_Lost_L r_1 r_4 hr_4
    refine Rt (some 145) (.callf 40) [] none [.d (.sl (List.map Module.d r_1))] (.d (.sl (List.map D.str r_4))) [] (cc hc_4) <| Rc 4 [⟨.d (.agg [.bool false, .bool false, .bool false, .bool false, .bool false, .bool false, .bool false, .bool false]), []⟩, ⟨.ptr [17] 0 0, [([17], some (.cells [.b false, .b false, .b false, .b false, .b false, .b false, .b false, .b false] 0))]⟩, ⟨.d (.sl (List.map D.str r_4)), []⟩, ⟨.tup [], [([17], some (.cells [.b false, .b false, .b false, .b false, .b false, .b false, .b false, .b false] 0))]⟩] <| Rk <| Sq <| Ro <| Rc 1 [vi 0] <| Rk <| Sq <| Sq <| Ro <| Rc 1 [vi 0] <| Rk <| Runs.block ?_
    obtain ⟨e_6, he_4, h⟩ := bind_s h
    refine Runs.loop (fun x : ((A8 Bool) × Int × Int) => hansomlaw39_PoolNames_l101 e_1.1 e_2.1 x.1 l_ n_ r_1 r_2 r_4 x.2.1 x.2.2) (fun (x : ((A8 Bool) × Int × Int)) (g : Unit) => hansomlaw39_PoolNames_h101 e_1.1 e_2.1 x.1 l_ n_ r_1 r_2 r_4 x.2.1 x.2.2) (hansomlaw39_PoolNames_P101 l_ n_ e_1.1 e_2.1 l_ n_ r_1 r_2 r_4) (fun x g r hr => hansomlaw39_PoolNames_l101_ok l_ n_ e_1.1 e_2.1 x.1 l_ n_ r_1 r_2 r_4 x.2.1 x.2.2  r hr) () he_4 Cz ?_
    rintro ⟨o, s⟩ hp
    cases e_6 with
    | inl e_7 =>
     obtain ⟨ho, hf⟩ := hp
     have ho' : o = .ret := ho
     subst ho'
     refine kB_ret <| kS_ret ?_
     obtain rfl := sj h
     exact ⟨Out.ret_ne, hf⟩
    | inr e_8 =>
     obtain ⟨ho, g_4, hk_4⟩ := hp
     have ho' : o = .exit 6 := ho
     subst ho'
     refine kB_hit <| kS_nrm <| Runs.canon _ hk_4 <| Sq <| Ro <| Rc 3 [vi n_, vi (bitsOp .and .i64 n_ 7), vi (bitsOp .and .i64 n_ 7)] <| Rk <| Sq <| Ro <| Rc 2 [⟨.d (.sl (List.map Module.d r_1)), []⟩, vi (bitsOp .and .i64 n_ 7)] ?_
     obtain ⟨r_5, hr_5, h⟩ := bind_s h
     have hc_5 := hansomlaw39_name_L (bitsOp .and .i64 n_ 7) r_5 hr_5
     refine Rt (some 196) (.callf 39) [] none [.i (bitsOp .and .i64 n_ 7)] (.d (.str r_5)) [] (cc hc_5) ?_
     obtain ⟨r_6, hr_6, h⟩ := bind_s h
     have hc_6 := pool_Find_L r_1 r_5 r_6 hr_6
     refine Rt (some 197) (.callf 41) [] none [.d (.sl (List.map Module.d r_1)), .d (.str r_5)] (.tup [.d (Given.d r_6.1), .b r_6.2]) [] (cc hc_6) <| Rc 6 [⟨.tup [.d (Given.d r_6.1), .b r_6.2], []⟩, ⟨.d (Given.d r_6.1), []⟩, vb r_6.2, ⟨.ptr [22] 0 0, [([22], some (.cells [.i 0, .i 0, .b false] 0))]⟩, ⟨.tup [], [([22], some (.cells [.i r_6.1.Mod, .i r_6.1.N, .b r_6.1.Com] 0))]⟩, vb r_6.2] <| Rk <| Sq <| Sq <| Ro <| Rc 1 [vi (bitsOp .and .i64 n_ 7)] ?_
     obtain ⟨z_1, hz_1, h⟩ := bind_s h
     refine Rt (some 201) (.iaddrA 8 1) [] none [.ptr [6] 0 0, .i (bitsOp .and .i64 n_ 7)] (.ptr [6] 0 (0 + ((bitsOp .and .i64 n_ 7)).toNat * 1)) [] (cut_iaA (l := e_1.1.l) hz_1 rfl) <| Rt (some 202) (.load none) [] none [.ptr [6] 0 (0 + ((bitsOp .and .i64 n_ 7)).toNat * 1)] (.i z_1) [] (cut_ldA (e := (D.int .i64)) (l := e_1.1.l) (y := z_1) hz_1 (by kernel_rfl) (by kernel_rfl)) <| Rc 1 [vb (decide (z_1 ≥ 0))] <| Rk ?_
     cases hb_3 : ((decide (z_1 ≥ 0)) : Bool) with
     | true =>
      replace h := ite_t hb_3 h
      refine Ct <| Sq <| Ro ?_
      obtain ⟨r_7, hr_7, h⟩ := bind_s h
      have hc_7 := hansomlaw39_awake_L r_7 hr_7
      refine Rt (some 204) (.callf 42) [] none [] (.b r_7) [] (cc hc_7) <| Rc 1 [vb r_7] ?_
      cases hb_4 : (r_7 : Bool) with
      | true =>
       replace h := ite_t hb_4 h
       refine Rc 2 [vi e_8, ⟨.d (.sl (List.map D.str r_4)), []⟩] <| Rt (some 208) .lenL [] none [.d (.sl (List.map D.str r_4))] (.i (r_4.length : Int)) [] (cut_len _) <| Rc 3 [vb (e_8 == (r_4.length : Int)), vb (e_8 == (r_4.length : Int)), vb (e_8 == (r_4.length : Int))] ?_
       cases hb_5 : ((e_8 == (r_4.length : Int)) : Bool) with
       | true =>
        replace h := ite_t hb_5 h
        refine Rc 3 [vb r_6.2, vb r_6.2, vb r_6.2] ?_
        cases hb_6 : (r_6.2 : Bool) with
        | true =>
         replace h := ite_t hb_6 h
         refine Rc 2 [⟨.d (Given.d r_6.1), []⟩, vi (bitsOp .and .i64 n_ 7)] ?_
         obtain ⟨z_2, hz_2, h⟩ := bind_s h
         refine Rt (some 217) (.iaddrA 8 1) [] none [.ptr [6] 0 0, .i (bitsOp .and .i64 n_ 7)] (.ptr [6] 0 (0 + ((bitsOp .and .i64 n_ 7)).toNat * 1)) [] (cut_iaA (l := e_1.1.l) hz_2 rfl) <| Rt (some 218) (.load none) [] none [.ptr [6] 0 (0 + ((bitsOp .and .i64 n_ 7)).toNat * 1)] (.i z_2) [] (cut_ldA (e := (D.int .i64)) (l := e_1.1.l) (y := z_2) hz_2 (by kernel_rfl) (by kernel_rfl)) <| Rc 4 [⟨.d (.agg [.int .i64 z_2, .int .i64 0, .bool false]), []⟩, vb (r_6.1.Mod == z_2 && (r_6.1.N == 0 && (r_6.1.Com == false && true))), vb (r_6.1.Mod == z_2 && (r_6.1.N == 0 && (r_6.1.Com == false && true))), vb (r_6.1.Mod == z_2 && (r_6.1.N == 0 && (r_6.1.Com == false && true)))] <| Rk <| Runs.ret <| kS_ret ?_
         cases h
         exact Fq
        | false =>
         replace h := ite_f hb_6 h
         refine Rc 8 [vn, vn, vn, vn, vn, vn, vb false, vb false] <| Rk <| Runs.ret <| kS_ret ?_
         cases h
         exact Fq
       | false =>
        replace h := ite_f hb_5 h
        refine Rc 11 [vn, vb false, vb false, vn, vn, vn, vn, vn, vn, vb false, vb false] <| Rk <| Runs.ret <| kS_ret ?_
        cases h
        exact Fq
      | false =>
       replace h := ite_f hb_4 h
       refine Rc 17 [vn, vn, vn, vn, vb false, vb false, vn, vb false, vb false, vn, vn, vn, vn, vn, vn, vb false, vb false] <| Rk <| Runs.ret <| kS_ret ?_
       cases h
       exact Fq
     | false =>
      replace h := ite_f hb_3 h
      refine Cf <| Runs.skip <| kS_nrm <| Sq <| Ro ?_
      obtain ⟨r_8, hr_8, h⟩ := bind_s h
      have hc_8 := hansomlaw39_awake_L r_8 hr_8
      refine Rt (some 222) (.callf 42) [] none [] (.b r_8) [] (cc hc_8) <| Rc 1 [vb r_8] ?_
      cases hb_7 : (r_8 : Bool) with
      | true =>
       replace h := ite_t hb_7 h
       refine Rc 2 [vi e_8, ⟨.d (.sl (List.map D.str r_4)), []⟩] <| Rt (some 226) .lenL [] none [.d (.sl (List.map D.str r_4))] (.i (r_4.length : Int)) [] (cut_len _) <| Rc 3 [vb (e_8 == (r_4.length : Int)), vb (e_8 == (r_4.length : Int)), vb (e_8 == (r_4.length : Int))] ?_
       cases hb_8 : ((e_8 == (r_4.length : Int)) : Bool) with
       | true =>
        replace h := ite_t hb_8 h
        refine Rc 2 [vb r_6.2, vi (bitsOp .and .i64 n_ 7)] ?_
        obtain ⟨z_3, hz_3, h⟩ := bind_s h
        refine Rt (some 232) (.iaddrA 8 1) [] none [.ptr [7] 0 0, .i (bitsOp .and .i64 n_ 7)] (.ptr [7] 0 (0 + ((bitsOp .and .i64 n_ 7)).toNat * 1)) [] (cut_iaA (l := e_2.1.l) hz_3 rfl) <| Rt (some 233) (.load none) [] none [.ptr [7] 0 (0 + ((bitsOp .and .i64 n_ 7)).toNat * 1)] (.i z_3) [] (cut_ldA (e := (D.int .i64)) (l := e_2.1.l) (y := z_3) hz_3 (by kernel_rfl) (by kernel_rfl)) <| Rc 4 [vb (decide (z_3 ≥ 0)), vb (r_6.2 == (decide (z_3 ≥ 0))), vb (r_6.2 == (decide (z_3 ≥ 0))), vb (r_6.2 == (decide (z_3 ≥ 0)))] ?_
        cases hb_9 : ((r_6.2 == (decide (z_3 ≥ 0))) : Bool) with
        | true =>
         replace h := ite_t hb_9 h
         refine Rc 3 [vb r_6.2, vb (!r_6.2), vb (!r_6.2)] ?_
         cases hb_10 : ((!r_6.2) : Bool) with
         | true =>
          replace h := ite_t hb_10 h
          refine Rc 16 [vn, vn, vn, vn, vn, vn, vn, vn, vn, vn, vn, vn, vn, vb true, vb true, vb true] <| Rk <| Runs.ret ?_
          cases h
          exact Fq
         | false =>
          replace h := ite_f hb_10 h
          refine Rc 3 [vp [22] 0 2, vb r_6.1.Com, vb r_6.1.Com] ?_
          cases hb_11 : (r_6.1.Com : Bool) with
          | true =>
           replace h := ite_t hb_11 h
           refine Rc 3 [⟨.d (.sl (List.map Ext.d r_2)), []⟩, vp [22] 0 1, vi r_6.1.N] ?_
           obtain ⟨z_4, hz_4, h⟩ := bind_s h
           refine Rt (some 247) (.iaddrS 3) [] none [.d (.sl (List.map Ext.d r_2)), .i r_6.1.N] (.elt (Ext.d z_4) 0) [] (cut_at hz_4 (fun _ => rfl)) <| Rc 3 [⟨.elt (Ext.d z_4) 0, []⟩, ⟨.d (.str z_4.Name), []⟩, vi (bitsOp .and .i64 n_ 7)] ?_
           obtain ⟨r_9, hr_9, h⟩ := bind_s h
           have hc_9 := hansomlaw39_name_L (bitsOp .and .i64 n_ 7) r_9 hr_9
           refine Rt (some 251) (.callf 39) [] (some []) [.i (bitsOp .and .i64 n_ 7)] (.d (.str r_9)) [] (cc hc_9) <| Rc 5 [vb (z_4.Name == r_9), vb (z_4.Name == r_9), vb (z_4.Name == r_9), vb (z_4.Name == r_9), vb (z_4.Name == r_9)] <| Rk <| Runs.ret ?_
           cases h
           exact Fq
          | false =>
           replace h := ite_f hb_11 h
           refine Rc 13 [vn, vn, vn, vn, vn, vn, vn, vn, vn, vb false, vb false, vb false, vb false] <| Rk <| Runs.ret ?_
           cases h
           exact Fq
        | false =>
         replace h := ite_f hb_9 h
         refine Rc 19 [vn, vn, vn, vn, vn, vn, vn, vn, vn, vn, vn, vn, vn, vn, vn, vn, vn, vb false, vb false] <| Rk <| Runs.ret ?_
         cases h
         exact Fq
       | false =>
        replace h := ite_f hb_8 h
        refine Rc 27 [vn, vn, vn, vn, vn, vn, vb false, vb false, vn, vn, vn, vn, vn, vn, vn, vn, vn, vn, vn, vn, vn, vn, vn, vn, vn, vb false, vb false] <| Rk <| Runs.ret ?_
        cases h
        exact Fq
      | false =>
       replace h := ite_f hb_7 h
       refine Rc 33 [vn, vn, vn, vn, vb false, vb false, vn, vn, vn, vn, vn, vn, vb false, vb false, vn, vn, vn, vn, vn, vn, vn, vn, vn, vn, vn, vn, vn, vn, vn, vn, vn, vb false, vb false] <| Rk <| Runs.ret ?_
       cases h
       exact Fq
theorem hansomlaw39_PoolNames_L (l_ : (List (A4 Int))) (n_ : Int) (r : Bool) (h : hansomlaw39_PoolNames l_ n_ = some r) : L 10 [.d (.sl (List.map (A4.ag (D.int .i64)) l_)), .i n_] = some (.b r, [.d (.sl (List.map (A4.ag (D.int .i64)) l_)), .i n_]) := by
 obtain ⟨p, ⟨hne, hf⟩, hr⟩ := hansomlaw39_PoolNames_ok l_ n_ r h
 obtain ⟨k, hk⟩ := run_of (F := F10) (args := [.d (.sl (List.map (A4.ag (D.int .i64)) l_)), .i n_]) (ap := [.d (.sl (List.map (A4.ag (D.int .i64)) l_)), .i n_]) (bx0 := updW (fun _ => none) []) rfl rfl (by kernel_rfl) ⟨p, ⟨hne, hf⟩, hr⟩
 exact lim_run (k := k) rfl hk
end Go.Es.Pln
