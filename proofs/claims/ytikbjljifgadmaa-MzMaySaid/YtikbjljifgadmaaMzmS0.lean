/- The interpreter answers as plain Lean does: part 1. No condition. -/
import Derived.Test.YtikbjljifgadmaaMzmF
import Derived.Test.YtikbjljifgadmaaMzmP
import Derived.KernelRfl
set_option linter.unusedVariables false
set_option linter.unusedSimpArgs false
set_option maxRecDepth 100000
set_option maxHeartbeats 4000000
namespace Go.Es.Mzm
theorem hansomlaw44_awake_L (r : Bool) (h : hansomlaw44_awake = some r) : L 33 [] = some (.d (.bool r), []) := by
  cases h
  exact (lim_iff (F := tab1)).2 ⟨100, by kernel_rfl⟩
def hansomref44_Near_h2 (x1 : Image) (y2 : Image) (v_900_2 : Nat) (v_901_2 : Nat) : St := ⟨tab [(1, .ptr [1] 0 0), (2, .ptr [2] 0 0)], tabB [([1], some (.cells [.d (.sl (mY x1.Bytes)), .d (.sl (List.map (D.int .i64) x1.Relocs)), .w x1.CS, .w x1.IP, .w x1.SS, .w x1.SP, .i x1.Min] 0)), ([2], some (.cells [.ref [900, 2] v_900_2 0 (mY y2.Bytes).length 1, .ref [901, 2] v_901_2 0 (List.map (D.int .i64) y2.Relocs).length 1, .w y2.CS, .w y2.IP, .w y2.SS, .w y2.SP, .i y2.Min] 0)), ([900, 2], some (.arr (mY y2.Bytes) v_900_2 false)), ([901, 2], some (.arr (List.map (D.int .i64) y2.Relocs) v_901_2 false))]⟩
def hansomref44_Near_h8 (x1 : Image) (y2 : Image) (v_6 : Nat) (v_901_2 : Nat) : St := ⟨tab [(1, .ptr [1] 0 0), (2, .ptr [2] 0 0)], tabB [([1], some (.cells [.d (.sl (mY x1.Bytes)), .d (.sl (List.map (D.int .i64) x1.Relocs)), .w x1.CS, .w x1.IP, .w x1.SS, .w x1.SP, .i x1.Min] 0)), ([2], some (.cells [.ref [6] v_6 0 (mY y2.Bytes).length 1, .ref [901, 2] v_901_2 0 (List.map (D.int .i64) y2.Relocs).length 1, .w y2.CS, .w y2.IP, .w y2.SS, .w y2.SP, .i y2.Min] 0)), ([6], some (.arr (mY y2.Bytes) v_6 false)), ([901, 2], some (.arr (List.map (D.int .i64) y2.Relocs) v_901_2 false))]⟩
def hansomref44_Near_h14 (x1 : Image) (y2 : Image) (at3 : Int) (i4 : Int) (v_6 : Nat) (v_901_2 : Nat) : St := ⟨tab [(1, .ptr [1] 0 0), (2, .ptr [2] 0 0), (3, .i at3), (4, .i i4)], tabB [([1], some (.cells [.d (.sl (mY x1.Bytes)), .d (.sl (List.map (D.int .i64) x1.Relocs)), .w x1.CS, .w x1.IP, .w x1.SS, .w x1.SP, .i x1.Min] 0)), ([2], some (.cells [.ref [6] v_6 0 (mY y2.Bytes).length 1, .ref [901, 2] v_901_2 0 (List.map (D.int .i64) y2.Relocs).length 1, .w y2.CS, .w y2.IP, .w y2.SS, .w y2.SP, .i y2.Min] 0)), ([6], some (.arr (mY y2.Bytes) v_6 false)), ([901, 2], some (.arr (List.map (D.int .i64) y2.Relocs) v_901_2 false))]⟩
def hansomref44_Near_h35 (x1 : Image) (y2 : Image) (v_6 : Nat) (v_901_2 : Nat) : St := ⟨tab [(1, .ptr [1] 0 0), (2, .ptr [2] 0 0)], tabB [([1], some (.cells [.d (.sl (mY x1.Bytes)), .d (.sl (List.map (D.int .i64) x1.Relocs)), .w x1.CS, .w x1.IP, .w x1.SS, .w x1.SP, .i x1.Min] 0)), ([2], some (.cells [.ref [6] v_6 0 (mY y2.Bytes).length 1, .ref [901, 2] v_901_2 0 (List.map (D.int .i64) y2.Relocs).length 1, .w y2.CS, .w y2.IP, .w y2.SS, .w y2.SP, .i y2.Min] 0)), ([6], some (.arr (mY y2.Bytes) v_6 false)), ([901, 2], some (.arr (List.map (D.int .i64) y2.Relocs) v_901_2 false))]⟩
def hansomref44_Near_Q (x_ : Image) (r : Image) (p : Out × St) : Prop := (∀ i, p.1 ≠ .exit i) ∧ finF F29 [.d (Image.d x_)] p.2 = some (.mix [.arr false 1 (mY r.Bytes), .arr false 1 (List.map (D.int .i64) r.Relocs), .w r.CS, .w r.IP, .w r.SS, .w r.SP, .i r.Min], [.d (Image.d x_)])
def hansomref44_Near_P14 (x_ : Image) (x1 : Image) (e : Image) (p : Out × St) : Prop := p.1 = .exit 0 ∧ ∃ g : (Nat × Nat), Canon [] [1, 2] [[1], [2], [6], [901, 2]] p.2 (hansomref44_Near_h35 x1 e g.1 g.2)
theorem hansomref44_Near_l14_ok (x_ : Image) (x1 : Image) (y2 : Image) (at3 : Int) (i4 : Int) (v_6 : Nat) (v_901_2 : Nat) (r : (Lp (Image × Int × Int) Image)) (h : hansomref44_Near_l14 x1 y2 at3 i4 = some r) : Runs L F29l14 (hansomref44_Near_h14 x1 y2 at3 i4 v_6 v_901_2) (LQ [] [1, 2, 3, 4] [[1], [2], [6], [901, 2]] (fun (x : (Image × Int × Int)) (g : (Nat × Nat)) => hansomref44_Near_h14 x1 x.1 x.2.1 x.2.2 g.1 g.2) (hansomref44_Near_P14 x_ x1) r) := by
 unfold hansomref44_Near_l14 at h
 refine Sq <| Sq <| Ro <| Rc 3 [vi i4, vp [1] 0 1, ⟨.d (.sl (List.map (D.int .i64) x1.Relocs)), []⟩] <| Rt (some 20) .lenL [] none [.d (.sl (List.map (D.int .i64) x1.Relocs))] (.i (x1.Relocs.length : Int)) [] (cut_len _) <| Rc 2 [vb (decide (i4 < (x1.Relocs.length : Int))), vb (decide (i4 < (x1.Relocs.length : Int)))] ?_
 cases hb_1 : ((decide (i4 < (x1.Relocs.length : Int))) : Bool) with
 | true =>
  replace h := ite_t hb_1 h
  refine Rc 3 [vi i4, vb (decide (i4 < 6)), vb (decide (i4 < 6))] <| Rk ?_
  cases hb_2 : ((decide (i4 < 6)) : Bool) with
  | true =>
   replace h := ite_t hb_2 h
   refine Ct <| Runs.skip <| kS_nrm <| Sq <| Runs.block <| Sq <| Ro <| Rc 4 [vi at3, vp [1] 0 1, ⟨.d (.sl (List.map (D.int .i64) x1.Relocs)), []⟩, vi i4] ?_
   obtain ⟨z_3, hz_3, h⟩ := bind_s h
   refine Rt (some 32) (.iaddrS 1) [] none [.d (.sl (List.map (D.int .i64) x1.Relocs)), .i i4] (.elt (.int .i64 z_3) 0) [] (cut_at hz_3 (fun _ => rfl)) <| Rc 4 [vi z_3, vi (bitsOp .and .i64 z_3 63), vi (IntKind.wrap .i64 (at3 + (bitsOp .and .i64 z_3 63))), vi (IntKind.wrap .i64 (at3 + (bitsOp .and .i64 z_3 63)))] <| Rk <| Sq <| Sq <| Ro <| Rc 4 [vi (IntKind.wrap .i64 (at3 + (bitsOp .and .i64 z_3 63))), vi (IntKind.wrap .i64 ((IntKind.wrap .i64 (at3 + (bitsOp .and .i64 z_3 63))) + 2)), vp [2] 0 0, ⟨.ref [6] v_6 0 (mY y2.Bytes).length 1, []⟩] <| Rt (some 40) .lenL [] none [.ref [6] v_6 0 (mY y2.Bytes).length 1] (.i (y2.Bytes.length : Int)) [] (cut_lenR (e := (D.int .u8)) y2.Bytes rfl) <| Rc 1 [vb (decide ((IntKind.wrap .i64 ((IntKind.wrap .i64 (at3 + (bitsOp .and .i64 z_3 63))) + 2)) > (y2.Bytes.length : Int)))] <| Rk ?_
   cases hb_3 : ((decide ((IntKind.wrap .i64 ((IntKind.wrap .i64 (at3 + (bitsOp .and .i64 z_3 63))) + 2)) > (y2.Bytes.length : Int))) : Bool) with
   | true =>
    replace h := ite_t hb_3 h
    refine Ct <| Runs.exit <| kS_exit <| kB_pass (by decide) <| kS_exit ?_
    obtain rfl := sj h
    exact ⟨nofun, rfl, (v_6, v_901_2), Cz⟩
   | false =>
    replace h := ite_f hb_3 h
    refine Cf <| Runs.skip <| kS_nrm <| Sq <| Ro <| Rc 4 [vp [2] 0 1, ⟨.ref [901, 2] v_901_2 0 (List.map (D.int .i64) y2.Relocs).length 1, []⟩, vi (IntKind.wrap .i64 (at3 + (bitsOp .and .i64 z_3 63))), ⟨.ref [45] 0 0 (List.map (D.int .i64) ([(IntKind.wrap .i64 (at3 + (bitsOp .and .i64 z_3 63)))] : List Int)).length 1, [([45], some (.arr (List.map (D.int .i64) ([(IntKind.wrap .i64 (at3 + (bitsOp .and .i64 z_3 63)))] : List Int)) 0 false))]⟩] ?_
    obtain ⟨z_4, hz_4, h⟩ := bind_s h
    refine Rt (some 46) (.append 1 8 false) [] none [.ref [901, 2] v_901_2 0 (List.map (D.int .i64) y2.Relocs).length 1, .ref [45] 0 0 (List.map (D.int .i64) ([(IntKind.wrap .i64 (at3 + (bitsOp .and .i64 z_3 63)))] : List Int)).length 1] (.ref [901, 2] (v_901_2 + 1) 0 (List.map (D.int .i64) z_4).length 1) [([901, 2], some (.arr (List.map (D.int .i64) z_4) (v_901_2 + 1) false))] (cut_appR (e := (D.int .i64)) (l := y2.Relocs) (fz := false) (ws := []) (ap_ref (e := (D.int .i64)) (l := ([(IntKind.wrap .i64 (at3 + (bitsOp .and .i64 z_3 63)))] : List Int)) (fz := false) (by kernel_rfl) (by kernel_rfl) rfl) (fun _ => rfl) hz_4 (by kernel_rfl) (by kernel_rfl) rfl) <| Rc 2 [vp [2] 0 1, ⟨.tup [], [([2], some (.cells [.ref [6] v_6 0 (mY y2.Bytes).length 1, .ref [901, 2] (v_901_2 + 1) 0 (List.map (D.int .i64) z_4).length 1, .w y2.CS, .w y2.IP, .w y2.SS, .w y2.SP, .i y2.Min] 0))]⟩] <| Rk <| Ro <| Rc 3 [vi (IntKind.wrap .i64 (at3 + (bitsOp .and .i64 z_3 63))), vi (IntKind.wrap .i64 ((IntKind.wrap .i64 (at3 + (bitsOp .and .i64 z_3 63))) + 2)), vi (IntKind.wrap .i64 ((IntKind.wrap .i64 (at3 + (bitsOp .and .i64 z_3 63))) + 2))] <| Rd <| kB_nrm <| kS_nrm <| Ro <| Rc 3 [vi i4, vi (IntKind.wrap .i64 (i4 + 1)), vi (IntKind.wrap .i64 (i4 + 1))] <| Rd ?_
    obtain rfl := sj h
    exact ⟨rfl, (v_6, (v_901_2 + 1)), Cz⟩
  | false =>
   replace h := ite_f hb_2 h
   refine Cf <| Runs.exit <| kS_exit ?_
   obtain rfl := sj h
   exact ⟨nofun, rfl, (v_6, v_901_2), Cz⟩
 | false =>
  replace h := ite_f hb_1 h
  refine Rc 3 [vn, vn, vb false] <| Rk <| Cf <| Runs.exit <| kS_exit ?_
  obtain rfl := sj h
  exact ⟨nofun, rfl, (v_6, v_901_2), Cz⟩
theorem hansomref44_Near_ok (x_ : Image) (r : Image) (h : hansomref44_Near x_ = some r) : Runs L F29.body ⟨tmOf [.d (Image.d x_)] 0, updW (fun _ => none) []⟩ (hansomref44_Near_Q x_ r) := by
 unfold hansomref44_Near at h
 refine Sq <| Ro <| Rc 2 [⟨.ptr [1] 0 0, [([1], some (.cells [.d (.sl (mY x_.Bytes)), .d (.sl (List.map (D.int .i64) x_.Relocs)), .w x_.CS, .w x_.IP, .w x_.SS, .w x_.SP, .i x_.Min] 0))]⟩, ⟨.ptr [2] 0 0, [([2], some (.cells [.nils, .nils, .w 0, .w 0, .w 0, .w 0, .i 0] 0))]⟩] <| Rk <| Runs.canon (hansomref44_Near_h2 x_ ({ Bytes := ([] : List Int), Relocs := ([] : List Int), CS := 0, IP := 0, SS := 0, SP := 0, Min := 0 } : Image) 0 0) (Canon.cons (ownB_nil (ver := 0) (v := 0) (cs := [.nils, .nils, .w 0, .w 0, .w 0, .w 0, .i 0]) (cs' := [.ref [900, 2] 0 0 (mY ([] : List Int)).length 1, .nils, .w 0, .w 0, .w 0, .w 0, .i 0]) (D.int .u8) (by kernel_rfl) (by kernel_rfl) (by kernel_rfl) (by decide) (by kernel_rfl)) (Canon.cons (ownB_nil (ver := 0) (v := 0) (cs := [.ref [900, 2] 0 0 (mY ([] : List Int)).length 1, .nils, .w 0, .w 0, .w 0, .w 0, .i 0]) (cs' := [.ref [900, 2] 0 0 (mY ([] : List Int)).length 1, .ref [901, 2] 0 0 (List.map (D.int .i64) ([] : List Int)).length 1, .w 0, .w 0, .w 0, .w 0, .i 0]) (D.int .i64) (by kernel_rfl) (by kernel_rfl) (by kernel_rfl) (by decide) (by kernel_rfl)) Cz)) ?_
 refine Sq <| Ro <| Rc 2 [⟨.d (Image.d x_), []⟩, ⟨.tup [], [([2], some (.cells [.d (.sl (mY x_.Bytes)), .d (.sl (List.map (D.int .i64) x_.Relocs)), .w x_.CS, .w x_.IP, .w x_.SS, .w x_.SP, .i x_.Min] 0))]⟩] <| Rk <| Sq <| Ro <| Rc 5 [⟨.ref [6] 0 0 (mY ([] : List Int)).length 1, [([6], some (.arr (mY ([] : List Int)) 0 false))]⟩, vp [1] 0 0, ⟨.d (.sl (mY x_.Bytes)), []⟩, vp [1] 0 0, ⟨.d (.sl (mY x_.Bytes)), []⟩] <| Rt (some 11) .lenL [] none [.d (.sl (mY x_.Bytes))] (.i (x_.Bytes.length : Int)) [] (cut_len _) <| Rc 1 [vi (mnI (x_.Bytes.length : Int) 600)] ?_
 obtain ⟨z_1, hz_1, h⟩ := bind_s h
 refine Rt (some 13) (.subsl 1 false true false) [] none [.d (.sl (mY x_.Bytes)), .i (mnI (x_.Bytes.length : Int) 600)] (.d (.sl (mY z_1))) [] (cut_slFT hz_1 (fun _ => rfl)) ?_
 obtain ⟨z_2, hz_2, h⟩ := bind_s h
 refine Rt (some 14) (.append 1 1 false) [] none [.ref [6] 0 0 (mY ([] : List Int)).length 1, .d (.sl (mY z_1))] (.ref [6] 1 0 (mY z_2).length 1) [([6], some (.arr (mY z_2) 1 false))] (cut_appR (e := (D.int .u8)) (l := ([] : List Int)) (fz := false) (ws := []) (ap_data _) (fun _ => rfl) hz_2 (by kernel_rfl) (by kernel_rfl) rfl) <| Rc 2 [vp [2] 0 0, ⟨.tup [], [([2], some (.cells [.ref [6] 1 0 (mY z_2).length 1, .d (.sl (List.map (D.int .i64) x_.Relocs)), .w x_.CS, .w x_.IP, .w x_.SS, .w x_.SP, .i x_.Min] 0))]⟩] <| Rk <| Sq <| Ro <| Rc 2 [vp [2] 0 1, ⟨.tup [], [([2], some (.cells [.ref [6] 1 0 (mY z_2).length 1, .nils, .w x_.CS, .w x_.IP, .w x_.SS, .w x_.SP, .i x_.Min] 0))]⟩] <| Rk <| Runs.canon (hansomref44_Near_h8 x_ ({ x_ with Bytes := z_2, Relocs := ([] : List Int) } : Image) 1 1) (Canon.cons (ownB_nil (ver := 0) (v := 1) (cs := [.ref [6] 1 0 (mY z_2).length 1, .nils, .w x_.CS, .w x_.IP, .w x_.SS, .w x_.SP, .i x_.Min]) (cs' := [.ref [6] 1 0 (mY z_2).length 1, .ref [901, 2] 1 0 (List.map (D.int .i64) ([] : List Int)).length 1, .w x_.CS, .w x_.IP, .w x_.SS, .w x_.SP, .i x_.Min]) (D.int .i64) (by kernel_rfl) (by kernel_rfl) (by kernel_rfl) (by decide) (by kernel_rfl)) Cz) ?_
 refine Sq <| Ro <| Rc 1 [vi 0] <| Rk <| Sq <| Sq <| Ro <| Rc 1 [vi 0] <| Rk <| Runs.block ?_
 obtain ⟨e_1, he_1, h⟩ := bind_s h
 refine Runs.loop (fun x : (Image × Int × Int) => hansomref44_Near_l14 x_ x.1 x.2.1 x.2.2) (fun (x : (Image × Int × Int)) (g : (Nat × Nat)) => hansomref44_Near_h14 x_ x.1 x.2.1 x.2.2 g.1 g.2) (hansomref44_Near_P14 x_ x_) (fun x g r hr => hansomref44_Near_l14_ok x_ x_ x.1 x.2.1 x.2.2 g.1 g.2 r hr) (1, 1) he_1 Cz ?_
 rintro ⟨o, s⟩ hp
 obtain ⟨ho, g_1, hk_1⟩ := hp
 have ho' : o = .exit 0 := ho
 subst ho'
 refine kB_hit <| kS_nrm <| Runs.canon _ hk_1 <| Sq <| Ro <| Rc 5 [vp [1] 0 6, vi x_.Min, vi (bitsOp .and .i64 x_.Min 255), vp [2] 0 6, ⟨.tup [], [([2], some (.cells [.ref [6] g_1.1 0 (mY e_1.Bytes).length 1, .ref [901, 2] g_1.2 0 (List.map (D.int .i64) e_1.Relocs).length 1, .w e_1.CS, .w e_1.IP, .w e_1.SS, .w e_1.SP, .i (bitsOp .and .i64 x_.Min 255)] 0))]⟩] <| Rk <| Sq <| Ro <| Rc 2 [⟨.mix [.ref [6] g_1.1 0 (mY e_1.Bytes).length 1, .ref [901, 2] g_1.2 0 (List.map (D.int .i64) e_1.Relocs).length 1, .w e_1.CS, .w e_1.IP, .w e_1.SS, .w e_1.SP, .i (bitsOp .and .i64 x_.Min 255)], []⟩, ⟨.tup [], [([2], some (.cells [.ref [6] g_1.1 0 (mY e_1.Bytes).length 1, .ref [901, 2] g_1.2 0 (List.map (D.int .i64) e_1.Relocs).length 1, .w e_1.CS, .w e_1.IP, .w e_1.SS, .w e_1.SP, .i (bitsOp .and .i64 x_.Min 255)] 0))]⟩] <| Rk <| Runs.ret ?_
 obtain rfl := sj h
 exact ⟨Out.ret_ne, (fin_of (rs := [.mix [.ref [6] g_1.1 0 (mY e_1.Bytes).length 1, .ref [901, 2] g_1.2 0 (List.map (D.int .i64) e_1.Relocs).length 1, .w e_1.CS, .w e_1.IP, .w e_1.SS, .w e_1.SP, .i (bitsOp .and .i64 x_.Min 255)]]) (by kernel_rfl) (by kernel_rfl) (outs_mix (ocs_own (id := [6]) (v := g_1.1) (fz := false) (es := List.map (D.int .u8) e_1.Bytes) (by kernel_rfl) (by decide) rfl (ocs_own (id := [901, 2]) (v := g_1.2) (fz := false) (es := List.map (D.int .i64) e_1.Relocs) (by kernel_rfl) (by decide) rfl (ocs_d (ocs_d (ocs_d (ocs_d (ocs_d ocs_nil))))))) outs_nil) (gives_cons (give_same (by kernel_rfl)) gives_nil))⟩
theorem hansomref44_Near_L (x_ : Image) (r : Image) (h : hansomref44_Near x_ = some r) : L 29 [.d (Image.d x_)] = some (.mix [.arr false 1 (mY r.Bytes), .arr false 1 (List.map (D.int .i64) r.Relocs), .w r.CS, .w r.IP, .w r.SS, .w r.SP, .i r.Min], [.d (Image.d x_)]) := by
 obtain ⟨p, ⟨hne, hf⟩, hr⟩ := hansomref44_Near_ok x_ r h
 obtain ⟨k, hk⟩ := run_of (F := F29) (args := [.d (Image.d x_)]) (ap := [.d (Image.d x_)]) (bx0 := updW (fun _ => none) []) rfl rfl (by kernel_rfl) ⟨p, ⟨hne, hf⟩, hr⟩
 exact lim_run (k := k) rfl hk
def bits_Paras_Q (n_ : Int) (r : Int) (p : Out × St) : Prop := (∀ i, p.1 ≠ .exit i) ∧ finF F75 [.i n_] p.2 = some (.i r, [.i n_])
theorem bits_Paras_ok (n_ : Int) (r : Int) (h : bits_Paras n_ = some r) : Runs L F75.body ⟨tmOf [.i n_] 0, updW (fun _ => none) []⟩ (bits_Paras_Q n_ r) := by
 unfold bits_Paras at h
 refine Sq <| Ro <| Rc 1 [vi 0] <| Rk <| Sq <| Sq <| Ro <| Rc 2 [vi n_, vb (decide (n_ < 1))] <| Rk ?_
 cases hb_1 : ((decide (n_ < 1)) : Bool) with
 | true =>
  replace h := ite_t hb_1 h
  refine Ct <| Sq <| Ro <| Rc 1 [vi 0] <| Rk <| Runs.ret <| kS_ret ?_
  cases h
  exact Fq
 | false =>
  replace h := ite_f hb_1 h
  refine Cf <| Runs.skip <| kS_nrm <| Sq <| Ro <| Rc 5 [vi n_, vi (IntKind.wrap .i64 (n_ - 1)), vi (IntKind.wrap .i64 (Int.tdiv (IntKind.wrap .i64 (n_ - 1)) 16)), vi (IntKind.wrap .i64 ((IntKind.wrap .i64 (Int.tdiv (IntKind.wrap .i64 (n_ - 1)) 16)) + 1)), vi (IntKind.wrap .i64 ((IntKind.wrap .i64 (Int.tdiv (IntKind.wrap .i64 (n_ - 1)) 16)) + 1))] <| Rk <| Runs.ret ?_
  cases h
  exact Fq
theorem bits_Paras_L (n_ : Int) (r : Int) (h : bits_Paras n_ = some r) : L 75 [.i n_] = some (.i r, [.i n_]) := by
 obtain ⟨p, ⟨hne, hf⟩, hr⟩ := bits_Paras_ok n_ r h
 obtain ⟨k, hk⟩ := run_of (F := F75) (args := [.i n_]) (ap := [.i n_]) (bx0 := updW (fun _ => none) []) rfl rfl (by kernel_rfl) ⟨p, ⟨hne, hf⟩, hr⟩
 exact lim_run (k := k) rfl hk
def mz_May_h14 (x1 : Image) (t31 : (List Int)) (t32 : Int) (t33 : Int) : St := ⟨tab [(1, .ptr [1] 0 0), (31, .d (.sl (List.map (D.int .i64) t31))), (32, .i t32), (33, .i t33)], tabB [([1], some (.cells [.d (.sl (mY x1.Bytes)), .d (.sl (List.map (D.int .i64) x1.Relocs)), .w x1.CS, .w x1.IP, .w x1.SS, .w x1.SP, .i x1.Min] 0))]⟩
def mz_May_h33  : St := ⟨tab [], tabB []⟩
def mz_May_Q (x_ : Image) (r : Bool) (p : Out × St) : Prop := (∀ i, p.1 ≠ .exit i) ∧ finF F34 [.d (Image.d x_)] p.2 = some (.b r, [.d (Image.d x_)])
def mz_May_P14 (x_ : Image) (x1 : Image) (t31 : (List Int)) (t32 : Int) (e : (Bool ⊕ Unit)) (p : Out × St) : Prop := match e with
 | .inl x => p.1 = .ret ∧ finF F34 [.d (Image.d x_)] p.2 = some (.b x, [.d (Image.d x_)])
 | .inr x => p.1 = .exit 0 ∧ ∃ g : Unit, Canon [] [] [] p.2 (mz_May_h33)
theorem mz_May_l14_ok (x_ : Image) (x1 : Image) (t31 : (List Int)) (t32 : Int) (t33 : Int) (r : (Lp Int (Bool ⊕ Unit))) (h : mz_May_l14 x1 t31 t32 t33 = some r) : Runs L F34l14 (mz_May_h14 x1 t31 t32 t33) (LQ [] [1, 31, 32, 33] [[1]] (fun (x : Int) (g : Unit) => mz_May_h14 x1 t31 t32 x) (mz_May_P14 x_ x1 t31 t32) r) := by
 unfold mz_May_l14 at h
 refine Sq <| Ro <| Rc 1 [vb (decide (t33 < t32))] <| Rk <| Sq ?_
 cases hb_5 : ((decide (t33 < t32)) : Bool) with
 | true =>
  replace h := ite_t hb_5 h
  refine Ct <| Runs.skip <| kS_nrm <| Sq <| Runs.block <| Sq <| Ro <| Rc 1 [vi t33] ?_
  obtain ⟨z_1, hz_1, h⟩ := bind_s h
  refine Rt (some 36) (.iaddrS 1) [] none [.d (.sl (List.map (D.int .i64) t31)), .i t33] (.elt (.int .i64 z_1) 0) [] (cut_at hz_1 (fun _ => rfl)) <| Rc 3 [vi z_1, vi t33, vi z_1] <| Rk <| Sq <| Ro <| Rc 3 [vi z_1, vb (decide (z_1 < 0)), vb (decide (z_1 < 0))] ?_
  cases hb_6 : ((decide (z_1 < 0)) : Bool) with
  | true =>
   replace h := ite_t hb_6 h
   refine Rc 22 [vn, vn, vn, vn, vn, vn, vb true, vb true, vn, vn, vn, vn, vn, vn, vn, vn, vn, vn, vn, vn, vn, vb true] <| Rk <| Ct <| Sq <| Ro <| Rc 1 [vb false] <| Rk <| Runs.ret <| kB_ret <| kS_ret ?_
   obtain rfl := sj h
   exact ⟨nofun, rfl, (by kernel_rfl)⟩
  | false =>
   replace h := ite_f hb_6 h
   refine Rc 3 [vi z_1, vp [1] 0 0, ⟨.d (.sl (mY x1.Bytes)), []⟩] <| Rt (some 44) .lenL [] none [.d (.sl (mY x1.Bytes))] (.i (x1.Bytes.length : Int)) [] (cut_len _) <| Rc 4 [vi (IntKind.wrap .i64 ((x1.Bytes.length : Int) - 2)), vb (decide (z_1 > (IntKind.wrap .i64 ((x1.Bytes.length : Int) - 2)))), vb (decide (z_1 > (IntKind.wrap .i64 ((x1.Bytes.length : Int) - 2)))), vb (decide (z_1 > (IntKind.wrap .i64 ((x1.Bytes.length : Int) - 2))))] ?_
   cases hb_7 : ((decide (z_1 > (IntKind.wrap .i64 ((x1.Bytes.length : Int) - 2)))) : Bool) with
   | true =>
    replace h := ite_t hb_7 h
    refine Rc 14 [vn, vn, vn, vn, vn, vn, vn, vn, vn, vn, vn, vn, vn, vb true] <| Rk <| Ct <| Sq <| Ro <| Rc 1 [vb false] <| Rk <| Runs.ret <| kB_ret <| kS_ret ?_
    obtain rfl := sj h
    exact ⟨nofun, rfl, (by kernel_rfl)⟩
   | false =>
    replace h := ite_f hb_7 h
    refine Rc 3 [vi t33, vb (decide (t33 > 0)), vb (decide (t33 > 0))] ?_
    cases hb_8 : ((decide (t33 > 0)) : Bool) with
    | true =>
     replace h := ite_t hb_8 h
     refine Rc 5 [vi z_1, vp [1] 0 1, ⟨.d (.sl (List.map (D.int .i64) x1.Relocs)), []⟩, vi t33, vi (IntKind.wrap .i64 (t33 - 1))] ?_
     obtain ⟨z_2, hz_2, h⟩ := bind_s h
     refine Rt (some 57) (.iaddrS 1) [] none [.d (.sl (List.map (D.int .i64) x1.Relocs)), .i (IntKind.wrap .i64 (t33 - 1))] (.elt (.int .i64 z_2) 0) [] (cut_at hz_2 (fun _ => rfl)) <| Rc 5 [vi z_2, vi (IntKind.wrap .i64 (z_1 - z_2)), vb (decide ((IntKind.wrap .i64 (z_1 - z_2)) < 2)), vb (decide ((IntKind.wrap .i64 (z_1 - z_2)) < 2)), vb (decide ((IntKind.wrap .i64 (z_1 - z_2)) < 2))] <| Rk ?_
     cases hb_9 : ((decide ((IntKind.wrap .i64 (z_1 - z_2)) < 2)) : Bool) with
     | true =>
      replace h := ite_t hb_9 h
      refine Ct <| Sq <| Ro <| Rc 1 [vb false] <| Rk <| Runs.ret <| kB_ret <| kS_ret ?_
      obtain rfl := sj h
      exact ⟨nofun, rfl, (by kernel_rfl)⟩
     | false =>
      replace h := ite_f hb_9 h
      refine Cf <| Runs.skip <| kB_nrm <| kS_nrm <| Ro <| Rc 2 [vi (IntKind.wrap .i64 (t33 + 1)), vi (IntKind.wrap .i64 (t33 + 1))] <| Rd ?_
      obtain rfl := sj h
      exact ⟨rfl, (), Cz⟩
    | false =>
     replace h := ite_f hb_8 h
     refine Rc 11 [vn, vn, vn, vn, vn, vn, vn, vn, vn, vb false, vb false] <| Rk <| Cf <| Runs.skip <| kB_nrm <| kS_nrm <| Ro <| Rc 2 [vi (IntKind.wrap .i64 (t33 + 1)), vi (IntKind.wrap .i64 (t33 + 1))] <| Rd ?_
     obtain rfl := sj h
     exact ⟨rfl, (), Cz⟩
 | false =>
  replace h := ite_f hb_5 h
  refine Cf <| Runs.exit <| kS_exit ?_
  obtain rfl := sj h
  exact ⟨nofun, rfl, (), Cz⟩
theorem mz_May_ok (x_ : Image) (r : Bool) (h : mz_May x_ = some r) : Runs L F34.body ⟨tmOf [.d (Image.d x_)] 0, updW (fun _ => none) []⟩ (mz_May_Q x_ r) := by
 unfold mz_May at h
 refine Sq <| Ro <| Rc 2 [⟨.ptr [1] 0 0, [([1], some (.cells [.d (.sl (mY x_.Bytes)), .d (.sl (List.map (D.int .i64) x_.Relocs)), .w x_.CS, .w x_.IP, .w x_.SS, .w x_.SP, .i x_.Min] 0))]⟩, vb false] <| Rk <| Sq <| Sq <| Ro <| Rc 2 [vp [1] 0 0, ⟨.d (.sl (mY x_.Bytes)), []⟩] <| Rt (some 7) .lenL [] none [.d (.sl (mY x_.Bytes))] (.i (x_.Bytes.length : Int)) [] (cut_len _) <| Rc 2 [vb (decide ((x_.Bytes.length : Int) > 655360)), vb (decide ((x_.Bytes.length : Int) > 655360))] ?_
 cases hb_1 : ((decide ((x_.Bytes.length : Int) > 655360)) : Bool) with
 | true =>
  replace h := ite_t hb_1 h
  refine Rc 20 [vn, vn, vn, vb true, vb true, vn, vn, vn, vn, vn, vn, vn, vn, vb true, vb true, vn, vn, vn, vn, vb true] <| Rk <| Ct <| Sq <| Ro <| Rc 1 [vb false] <| Rk <| Runs.ret <| kS_ret ?_
  cases h
  exact Fq
 | false =>
  replace h := ite_f hb_1 h
  refine Rc 5 [vp [1] 0 6, vi x_.Min, vb (decide (x_.Min < 0)), vb (decide (x_.Min < 0)), vb (decide (x_.Min < 0))] ?_
  cases hb_2 : ((decide (x_.Min < 0)) : Bool) with
  | true =>
   replace h := ite_t hb_2 h
   refine Rc 15 [vn, vn, vn, vn, vn, vn, vn, vn, vb true, vb true, vn, vn, vn, vn, vb true] <| Rk <| Ct <| Sq <| Ro <| Rc 1 [vb false] <| Rk <| Runs.ret <| kS_ret ?_
   cases h
   exact Fq
  | false =>
   replace h := ite_f hb_2 h
   refine Rc 4 [vp [1] 0 6, vi x_.Min, vp [1] 0 0, ⟨.d (.sl (mY x_.Bytes)), []⟩] <| Rt (some 19) .lenL [] none [.d (.sl (mY x_.Bytes))] (.i (x_.Bytes.length : Int)) [] (cut_len _) ?_
   obtain ⟨r_1, hr_1, h⟩ := bind_s h
   have hc_1 := bits_Paras_L (x_.Bytes.length : Int) r_1 hr_1
   refine Rt (some 20) (.callf 75) [] (some []) [.i (x_.Bytes.length : Int)] (.i r_1) [] (cc hc_1) <| Rc 4 [vi (IntKind.wrap .i64 (40960 - r_1)), vb (decide (x_.Min > (IntKind.wrap .i64 (40960 - r_1)))), vb (decide (x_.Min > (IntKind.wrap .i64 (40960 - r_1)))), vb (decide (x_.Min > (IntKind.wrap .i64 (40960 - r_1))))] ?_
   cases hb_3 : ((decide (x_.Min > (IntKind.wrap .i64 (40960 - r_1)))) : Bool) with
   | true =>
    replace h := ite_t hb_3 h
    refine Rc 5 [vn, vn, vn, vn, vb true] <| Rk <| Ct <| Sq <| Ro <| Rc 1 [vb false] <| Rk <| Runs.ret <| kS_ret ?_
    cases h
    exact Fq
   | false =>
    replace h := ite_f hb_3 h
    refine Rc 2 [vp [1] 0 1, ⟨.d (.sl (List.map (D.int .i64) x_.Relocs)), []⟩] <| Rt (some 27) .lenL [] none [.d (.sl (List.map (D.int .i64) x_.Relocs))] (.i (x_.Relocs.length : Int)) [] (cut_len _) <| Rc 2 [vb (decide ((x_.Relocs.length : Int) > 4000)), vb (decide ((x_.Relocs.length : Int) > 4000))] <| Rk ?_
    cases hb_4 : ((decide ((x_.Relocs.length : Int) > 4000)) : Bool) with
    | true =>
     replace h := ite_t hb_4 h
     refine Ct <| Sq <| Ro <| Rc 1 [vb false] <| Rk <| Runs.ret <| kS_ret ?_
     cases h
     exact Fq
    | false =>
     replace h := ite_f hb_4 h
     refine Cf <| Runs.skip <| kS_nrm <| Sq <| Sq <| Ro <| Rc 2 [vp [1] 0 1, ⟨.d (.sl (List.map (D.int .i64) x_.Relocs)), []⟩] <| Rt (some 32) .lenL [] none [.d (.sl (List.map (D.int .i64) x_.Relocs))] (.i (x_.Relocs.length : Int)) [] (cut_len _) <| Rc 1 [vi 0] <| Rk <| Runs.block ?_
     obtain ⟨e_1, he_1, h⟩ := bind_s h
     refine Runs.loop (fun x : Int => mz_May_l14 x_ x_.Relocs (x_.Relocs.length : Int) x) (fun (x : Int) (g : Unit) => mz_May_h14 x_ x_.Relocs (x_.Relocs.length : Int) x) (mz_May_P14 x_ x_ x_.Relocs (x_.Relocs.length : Int)) (fun x g r hr => mz_May_l14_ok x_ x_ x_.Relocs (x_.Relocs.length : Int) x  r hr) () he_1 Cz ?_
     rintro ⟨o, s⟩ hp
     cases e_1 with
     | inl e_2 =>
      obtain ⟨ho, hf⟩ := hp
      have ho' : o = .ret := ho
      subst ho'
      refine kB_ret <| kS_ret ?_
      obtain rfl := sj h
      exact ⟨Out.ret_ne, hf⟩
     | inr e_3 =>
      obtain ⟨ho, g_1, hk_1⟩ := hp
      have ho' : o = .exit 0 := ho
      subst ho'
      refine kB_hit <| kS_nrm <| Runs.canon _ hk_1 <| Sq <| Ro <| Rc 1 [vb true] <| Rk <| Runs.ret ?_
      cases h
      exact Fq
theorem mz_May_L (x_ : Image) (r : Bool) (h : mz_May x_ = some r) : L 34 [.d (Image.d x_)] = some (.b r, [.d (Image.d x_)]) := by
 obtain ⟨p, ⟨hne, hf⟩, hr⟩ := mz_May_ok x_ r h
 obtain ⟨k, hk⟩ := run_of (F := F34) (args := [.d (Image.d x_)]) (ap := [.d (Image.d x_)]) (bx0 := updW (fun _ => none) []) rfl rfl (by kernel_rfl) ⟨p, ⟨hne, hf⟩, hr⟩
 exact lim_run (k := k) rfl hk
def bits_Up_Q (n_ : Int) (step_ : Int) (r : Int) (p : Out × St) : Prop := (∀ i, p.1 ≠ .exit i) ∧ finF F104 [.i n_, .i step_] p.2 = some (.i r, [.i n_, .i step_])
theorem bits_Up_ok (n_ : Int) (step_ : Int) (r : Int) (h : bits_Up n_ step_ = some r) : Runs L F104.body ⟨tmOf [.i n_, .i step_] 0, updW (fun _ => none) []⟩ (bits_Up_Q n_ step_ r) := by
 unfold bits_Up at h
 refine Sq <| Ro <| Rc 1 [vi 0] <| Rk <| Sq <| Sq <| Ro <| Rc 3 [vi step_, vb (decide (step_ < 1)), vb (decide (step_ < 1))] ?_
 cases hb_1 : ((decide (step_ < 1)) : Bool) with
 | true =>
  replace h := ite_t hb_1 h
  refine Rc 10 [vn, vn, vb true, vb true, vn, vn, vn, vn, vn, vb true] <| Rk <| Ct <| Ro <| Rc 1 [vi 1] <| Rk <| Sq <| Ro <| Rc 4 [vi n_, vi (mxI n_ 0), vi (mnI (mxI n_ 0) 16777216), vi (mnI (mxI n_ 0) 16777216)] <| Rk <| Sq <| Ro <| Rc 8 [vi (mnI (mxI n_ 0) 16777216), vi 1, vi (IntKind.wrap .i64 ((mnI (mxI n_ 0) 16777216) + 1)), vi (IntKind.wrap .i64 ((IntKind.wrap .i64 ((mnI (mxI n_ 0) 16777216) + 1)) - 1)), vi 1, vi (IntKind.wrap .i64 (1 - 1)), vi (bitsOp .andNot .i64 (IntKind.wrap .i64 ((IntKind.wrap .i64 ((mnI (mxI n_ 0) 16777216) + 1)) - 1)) (IntKind.wrap .i64 (1 - 1))), vi (bitsOp .andNot .i64 (IntKind.wrap .i64 ((IntKind.wrap .i64 ((mnI (mxI n_ 0) 16777216) + 1)) - 1)) (IntKind.wrap .i64 (1 - 1)))] <| Rk <| Runs.ret ?_
  cases h
  exact Fq
 | false =>
  replace h := ite_f hb_1 h
  refine Rc 4 [vi step_, vb (decide (step_ > 4096)), vb (decide (step_ > 4096)), vb (decide (step_ > 4096))] ?_
  cases hb_2 : ((decide (step_ > 4096)) : Bool) with
  | true =>
   replace h := ite_t hb_2 h
   refine Rc 6 [vn, vn, vn, vn, vn, vb true] <| Rk <| Ct <| Ro <| Rc 1 [vi 1] <| Rk <| Sq <| Ro <| Rc 4 [vi n_, vi (mxI n_ 0), vi (mnI (mxI n_ 0) 16777216), vi (mnI (mxI n_ 0) 16777216)] <| Rk <| Sq <| Ro <| Rc 8 [vi (mnI (mxI n_ 0) 16777216), vi 1, vi (IntKind.wrap .i64 ((mnI (mxI n_ 0) 16777216) + 1)), vi (IntKind.wrap .i64 ((IntKind.wrap .i64 ((mnI (mxI n_ 0) 16777216) + 1)) - 1)), vi 1, vi (IntKind.wrap .i64 (1 - 1)), vi (bitsOp .andNot .i64 (IntKind.wrap .i64 ((IntKind.wrap .i64 ((mnI (mxI n_ 0) 16777216) + 1)) - 1)) (IntKind.wrap .i64 (1 - 1))), vi (bitsOp .andNot .i64 (IntKind.wrap .i64 ((IntKind.wrap .i64 ((mnI (mxI n_ 0) 16777216) + 1)) - 1)) (IntKind.wrap .i64 (1 - 1)))] <| Rk <| Runs.ret ?_
   cases h
   exact Fq
  | false =>
   replace h := ite_f hb_2 h
   refine Rc 6 [vi step_, vi step_, vi (IntKind.wrap .i64 (step_ - 1)), vi (bitsOp .and .i64 step_ (IntKind.wrap .i64 (step_ - 1))), vb ((bitsOp .and .i64 step_ (IntKind.wrap .i64 (step_ - 1))) != 0), vb ((bitsOp .and .i64 step_ (IntKind.wrap .i64 (step_ - 1))) != 0)] <| Rk ?_
   cases hb_3 : (((bitsOp .and .i64 step_ (IntKind.wrap .i64 (step_ - 1))) != 0) : Bool) with
   | true =>
    replace h := ite_t hb_3 h
    refine Ct <| Ro <| Rc 1 [vi 1] <| Rk <| Sq <| Ro <| Rc 4 [vi n_, vi (mxI n_ 0), vi (mnI (mxI n_ 0) 16777216), vi (mnI (mxI n_ 0) 16777216)] <| Rk <| Sq <| Ro <| Rc 8 [vi (mnI (mxI n_ 0) 16777216), vi 1, vi (IntKind.wrap .i64 ((mnI (mxI n_ 0) 16777216) + 1)), vi (IntKind.wrap .i64 ((IntKind.wrap .i64 ((mnI (mxI n_ 0) 16777216) + 1)) - 1)), vi 1, vi (IntKind.wrap .i64 (1 - 1)), vi (bitsOp .andNot .i64 (IntKind.wrap .i64 ((IntKind.wrap .i64 ((mnI (mxI n_ 0) 16777216) + 1)) - 1)) (IntKind.wrap .i64 (1 - 1))), vi (bitsOp .andNot .i64 (IntKind.wrap .i64 ((IntKind.wrap .i64 ((mnI (mxI n_ 0) 16777216) + 1)) - 1)) (IntKind.wrap .i64 (1 - 1)))] <| Rk <| Runs.ret ?_
    cases h
    exact Fq
   | false =>
    replace h := ite_f hb_3 h
    refine Cf <| Runs.skip <| kS_nrm <| Sq <| Ro <| Rc 4 [vi n_, vi (mxI n_ 0), vi (mnI (mxI n_ 0) 16777216), vi (mnI (mxI n_ 0) 16777216)] <| Rk <| Sq <| Ro <| Rc 8 [vi (mnI (mxI n_ 0) 16777216), vi step_, vi (IntKind.wrap .i64 ((mnI (mxI n_ 0) 16777216) + step_)), vi (IntKind.wrap .i64 ((IntKind.wrap .i64 ((mnI (mxI n_ 0) 16777216) + step_)) - 1)), vi step_, vi (IntKind.wrap .i64 (step_ - 1)), vi (bitsOp .andNot .i64 (IntKind.wrap .i64 ((IntKind.wrap .i64 ((mnI (mxI n_ 0) 16777216) + step_)) - 1)) (IntKind.wrap .i64 (step_ - 1))), vi (bitsOp .andNot .i64 (IntKind.wrap .i64 ((IntKind.wrap .i64 ((mnI (mxI n_ 0) 16777216) + step_)) - 1)) (IntKind.wrap .i64 (step_ - 1)))] <| Rk <| Runs.ret ?_
    cases h
    exact Fq
theorem bits_Up_L (n_ : Int) (step_ : Int) (r : Int) (h : bits_Up n_ step_ = some r) : L 104 [.i n_, .i step_] = some (.i r, [.i n_, .i step_]) := by
 obtain ⟨p, ⟨hne, hf⟩, hr⟩ := bits_Up_ok n_ step_ r h
 obtain ⟨k, hk⟩ := run_of (F := F104) (args := [.i n_, .i step_]) (ap := [.i n_, .i step_]) (bx0 := updW (fun _ => none) []) rfl rfl (by kernel_rfl) ⟨p, ⟨hne, hf⟩, hr⟩
 exact lim_run (k := k) rfl hk
def mz_head_Q (relocs_ : Int) (r : Int) (p : Out × St) : Prop := (∀ i, p.1 ≠ .exit i) ∧ finF F70 [.i relocs_] p.2 = some (.i r, [.i relocs_])
theorem mz_head_ok (relocs_ : Int) (r : Int) (h : mz_head relocs_ = some r) : Runs L F70.body ⟨tmOf [.i relocs_] 0, updW (fun _ => none) []⟩ (mz_head_Q relocs_ r) := by
 unfold mz_head at h
 refine Sq <| Ro <| Rc 1 [vi 0] <| Rk <| Sq <| Ro <| Rc 3 [vi relocs_, vi (IntKind.wrap .i64 (4 * relocs_)), vi (IntKind.wrap .i64 (28 + (IntKind.wrap .i64 (4 * relocs_))))] ?_
 obtain ⟨r_1, hr_1, h⟩ := bind_s h
 have hc_1 := bits_Up_L (IntKind.wrap .i64 (28 + (IntKind.wrap .i64 (4 * relocs_)))) 16 r_1 hr_1
 refine Rt (some 6) (.callf 104) [] none [.i (IntKind.wrap .i64 (28 + (IntKind.wrap .i64 (4 * relocs_)))), .i 16] (.i r_1) [] (cc hc_1) <| Rc 1 [vi r_1] <| Rk <| Runs.ret ?_
 cases h
 exact Fq
theorem mz_head_L (relocs_ : Int) (r : Int) (h : mz_head relocs_ = some r) : L 70 [.i relocs_] = some (.i r, [.i relocs_]) := by
 obtain ⟨p, ⟨hne, hf⟩, hr⟩ := mz_head_ok relocs_ r h
 obtain ⟨k, hk⟩ := run_of (F := F70) (args := [.i relocs_]) (ap := [.i relocs_]) (bx0 := updW (fun _ => none) []) rfl rfl (by kernel_rfl) ⟨p, ⟨hne, hf⟩, hr⟩
 exact lim_run (k := k) rfl hk
def bits_Low_Q (w_ : Int) (r : Int) (p : Out × St) : Prop := (∀ i, p.1 ≠ .exit i) ∧ finF F100 [.w w_] p.2 = some (.y r, [.w w_])
theorem bits_Low_ok (w_ : Int) (r : Int) (h : bits_Low w_ = some r) : Runs L F100.body ⟨tmOf [.w w_] 0, updW (fun _ => none) []⟩ (bits_Low_Q w_ r) := by
 unfold bits_Low at h
 refine Sq <| Ro <| Rc 1 [vy 0] <| Rk <| Sq <| Ro <| Rc 3 [vw w_, vy (IntKind.wrap .u8 w_), vy (IntKind.wrap .u8 w_)] <| Rk <| Runs.ret ?_
 cases h
 exact Fq
theorem bits_Low_L (w_ : Int) (r : Int) (h : bits_Low w_ = some r) : L 100 [.w w_] = some (.y r, [.w w_]) := by
 obtain ⟨p, ⟨hne, hf⟩, hr⟩ := bits_Low_ok w_ r h
 obtain ⟨k, hk⟩ := run_of (F := F100) (args := [.w w_]) (ap := [.w w_]) (bx0 := updW (fun _ => none) []) rfl rfl (by kernel_rfl) ⟨p, ⟨hne, hf⟩, hr⟩
 exact lim_run (k := k) rfl hk
def bits_High_Q (w_ : Int) (r : Int) (p : Out × St) : Prop := (∀ i, p.1 ≠ .exit i) ∧ finF F101 [.w w_] p.2 = some (.y r, [.w w_])
theorem bits_High_ok (w_ : Int) (r : Int) (h : bits_High w_ = some r) : Runs L F101.body ⟨tmOf [.w w_] 0, updW (fun _ => none) []⟩ (bits_High_Q w_ r) := by
 unfold bits_High at h
 refine Sq <| Ro <| Rc 1 [vy 0] <| Rk <| Sq <| Ro <| Rc 4 [vw w_, vw (shrI .u16 w_ 8), vy (IntKind.wrap .u8 (shrI .u16 w_ 8)), vy (IntKind.wrap .u8 (shrI .u16 w_ 8))] <| Rk <| Runs.ret ?_
 cases h
 exact Fq
theorem bits_High_L (w_ : Int) (r : Int) (h : bits_High w_ = some r) : L 101 [.w w_] = some (.y r, [.w w_]) := by
 obtain ⟨p, ⟨hne, hf⟩, hr⟩ := bits_High_ok w_ r h
 obtain ⟨k, hk⟩ := run_of (F := F101) (args := [.w w_]) (ap := [.w w_]) (bx0 := updW (fun _ => none) []) rfl rfl (by kernel_rfl) ⟨p, ⟨hne, hf⟩, hr⟩
 exact lim_run (k := k) rfl hk
def index_Two_Q (w_ : Int) (r : (List Int)) (p : Out × St) : Prop := (∀ i, p.1 ≠ .exit i) ∧ finF F62 [.w w_] p.2 = some (.d (.sl (mY r)), [.w w_])
theorem index_Two_ok (w_ : Int) (r : (List Int)) (h : index_Two w_ = some r) : Runs L F62.body ⟨tmOf [.w w_] 0, updW (fun _ => none) []⟩ (index_Two_Q w_ r) := by
 unfold index_Two at h
 refine Sq <| Ro <| Rc 1 [⟨.nils, []⟩] <| Rk <| Sq <| Ro <| Rc 1 [vw w_] ?_
 obtain ⟨r_1, hr_1, h⟩ := bind_s h
 have hc_1 := bits_Low_L w_ r_1 hr_1
 refine Rt (some 4) (.callf 100) [] none [.w w_] (.y r_1) [] (cc hc_1) <| Rc 1 [vw w_] ?_
 obtain ⟨r_2, hr_2, h⟩ := bind_s h
 have hc_2 := bits_High_L w_ r_2 hr_2
 refine Rt (some 6) (.callf 101) [] none [.w w_] (.y r_2) [] (cc hc_2) <| Rc 2 [⟨.ref [7] 0 0 (mY ([r_1, r_2] : List Int)).length 1, [([7], some (.arr (mY ([r_1, r_2] : List Int)) 0 false))]⟩, ⟨.ref [7] 0 0 (mY ([r_1, r_2] : List Int)).length 1, []⟩] <| Rk <| Sq <| Runs.gcons (frz_ref (e := (D.int .u8)) (l := ([r_1, r_2] : List Int)) (id := [7]) (v := 0) (n := 1) (fz := false) (by kernel_rfl) (by kernel_rfl) rfl) <| Runs.gnil <| kS_nrm <| Runs.ret ?_
 cases h
 exact Fq
theorem index_Two_L (w_ : Int) (r : (List Int)) (h : index_Two w_ = some r) : L 62 [.w w_] = some (.d (.sl (mY r)), [.w w_]) := by
 obtain ⟨p, ⟨hne, hf⟩, hr⟩ := index_Two_ok w_ r h
 obtain ⟨k, hk⟩ := run_of (F := F62) (args := [.w w_]) (ap := [.w w_]) (bx0 := updW (fun _ => none) []) rfl rfl (by kernel_rfl) ⟨p, ⟨hne, hf⟩, hr⟩
 exact lim_run (k := k) rfl hk
def bits_Normal_Q (at_ : Int) (r : (Int × Int)) (p : Out × St) : Prop := (∀ i, p.1 ≠ .exit i) ∧ finF F71 [.u at_] p.2 = some (.tup [.w r.1, .w r.2], [.u at_])
theorem bits_Normal_ok (at_ : Int) (r : (Int × Int)) (h : bits_Normal at_ = some r) : Runs L F71.body ⟨tmOf [.u at_] 0, updW (fun _ => none) []⟩ (bits_Normal_Q at_ r) := by
 unfold bits_Normal at h
 refine Sq <| Ro <| Rc 2 [vw 0, vw 0] <| Rk <| Sq <| Ro <| Rc 3 [vu at_, vu (bitsOp .and .u32 at_ 1048575), vu (bitsOp .and .u32 at_ 1048575)] <| Rk <| Sq <| Ro <| Rc 8 [vu (bitsOp .and .u32 at_ 1048575), vu (shrI .u32 (bitsOp .and .u32 at_ 1048575) 4), vw (IntKind.wrap .u16 (shrI .u32 (bitsOp .and .u32 at_ 1048575) 4)), vu (bitsOp .and .u32 at_ 1048575), vu (bitsOp .and .u32 (bitsOp .and .u32 at_ 1048575) 15), vw (IntKind.wrap .u16 (bitsOp .and .u32 (bitsOp .and .u32 at_ 1048575) 15)), vw (IntKind.wrap .u16 (shrI .u32 (bitsOp .and .u32 at_ 1048575) 4)), vw (IntKind.wrap .u16 (bitsOp .and .u32 (bitsOp .and .u32 at_ 1048575) 15))] <| Rk <| Runs.ret ?_
 cases h
 exact Fq
theorem bits_Normal_L (at_ : Int) (r : (Int × Int)) (h : bits_Normal at_ = some r) : L 71 [.u at_] = some (.tup [.w r.1, .w r.2], [.u at_]) := by
 obtain ⟨p, ⟨hne, hf⟩, hr⟩ := bits_Normal_ok at_ r h
 obtain ⟨k, hk⟩ := run_of (F := F71) (args := [.u at_]) (ap := [.u at_]) (bx0 := updW (fun _ => none) []) rfl rfl (by kernel_rfl) ⟨p, ⟨hne, hf⟩, hr⟩
 exact lim_run (k := k) rfl hk
def mz_Write_h22 (x1 : Image) (b_53 : (List Int)) (n4 : Int) (t54 : (List Int)) (t55 : Int) (t56 : Int) (v_53 : Nat) : St := ⟨tab [(1, .ptr [1] 0 0), (4, .i n4), (7, .ref [53] v_53 0 (mY b_53).length 1), (54, .d (.sl (List.map (D.int .u16) t54))), (55, .i t55), (56, .i t56)], tabB [([1], some (.cells [.d (.sl (mY x1.Bytes)), .d (.sl (List.map (D.int .i64) x1.Relocs)), .w x1.CS, .w x1.IP, .w x1.SS, .w x1.SP, .i x1.Min] 0)), ([53], some (.arr (mY b_53) v_53 false))]⟩
def mz_Write_h35 (x1 : Image) (b_53 : (List Int)) (n4 : Int) (v_53 : Nat) : St := ⟨tab [(1, .ptr [1] 0 0), (4, .i n4), (7, .ref [53] v_53 0 (mY b_53).length 1)], tabB [([1], some (.cells [.d (.sl (mY x1.Bytes)), .d (.sl (List.map (D.int .i64) x1.Relocs)), .w x1.CS, .w x1.IP, .w x1.SS, .w x1.SP, .i x1.Min] 0)), ([53], some (.arr (mY b_53) v_53 false))]⟩
def mz_Write_h39 (x1 : Image) (b_53 : (List Int)) (n4 : Int) (t66 : (List Int)) (t67 : Int) (t68 : Int) (v_53 : Nat) : St := ⟨tab [(1, .ptr [1] 0 0), (4, .i n4), (7, .ref [53] v_53 0 (mY b_53).length 1), (66, .d (.sl (List.map (D.int .i64) t66))), (67, .i t67), (68, .i t68)], tabB [([1], some (.cells [.d (.sl (mY x1.Bytes)), .d (.sl (List.map (D.int .i64) x1.Relocs)), .w x1.CS, .w x1.IP, .w x1.SS, .w x1.SP, .i x1.Min] 0)), ([53], some (.arr (mY b_53) v_53 false))]⟩
def mz_Write_h54 (x1 : Image) (b_53 : (List Int)) (n4 : Int) (v_53 : Nat) : St := ⟨tab [(1, .ptr [1] 0 0), (4, .i n4), (7, .ref [53] v_53 0 (mY b_53).length 1)], tabB [([1], some (.cells [.d (.sl (mY x1.Bytes)), .d (.sl (List.map (D.int .i64) x1.Relocs)), .w x1.CS, .w x1.IP, .w x1.SS, .w x1.SP, .i x1.Min] 0)), ([53], some (.arr (mY b_53) v_53 false))]⟩
def mz_Write_Q (x_ : Image) (r : ((List Int) × Int)) (p : Out × St) : Prop := (∀ i, p.1 ≠ .exit i) ∧ finF F31 [.d (Image.d x_)] p.2 = some (.tup [.d (.sl (mY r.1)), .i r.2], [.d (Image.d x_)])
def mz_Write_P22 (x_ : Image) (x1 : Image) (n4 : Int) (t54 : (List Int)) (t55 : Int) (e : (List Int)) (p : Out × St) : Prop := p.1 = .exit 0 ∧ ∃ g : Nat, Canon [] [1, 4, 7] [[1], [53]] p.2 (mz_Write_h35 x1 e n4 g)
def mz_Write_P39 (x_ : Image) (x1 : Image) (n4 : Int) (t66 : (List Int)) (t67 : Int) (e : (List Int)) (p : Out × St) : Prop := p.1 = .exit 2 ∧ ∃ g : Nat, Canon [] [1, 4, 7] [[1], [53]] p.2 (mz_Write_h54 x1 e n4 g)
theorem mz_Write_l22_ok (x_ : Image) (x1 : Image) (b_53 : (List Int)) (n4 : Int) (t54 : (List Int)) (t55 : Int) (t56 : Int) (v_53 : Nat) (r : (Lp ((List Int) × Int) (List Int))) (h : mz_Write_l22 x1 b_53 n4 t54 t55 t56 = some r) : Runs L F31l22 (mz_Write_h22 x1 b_53 n4 t54 t55 t56 v_53) (LQ [.frz 54] [1, 4, 7, 54, 55, 56] [[1], [53]] (fun (x : ((List Int) × Int)) (g : Nat) => mz_Write_h22 x1 x.1 n4 t54 t55 x.2 g) (mz_Write_P22 x_ x1 n4 t54 t55) r) := by
 unfold mz_Write_l22 at h
 refine Sq <| Ro <| Rc 1 [vb (decide (t56 < t55))] <| Rk <| Sq ?_
 cases hb_2 : ((decide (t56 < t55)) : Bool) with
 | true =>
  replace h := ite_t hb_2 h
  refine Ct <| Runs.skip <| kS_nrm <| Sq <| Runs.block <| Sq <| Ro ?_
  obtain ⟨z_1, hz_1, h⟩ := bind_s h
  refine Rt (some 58) (.iaddrS 1) [] none [.d (.sl (List.map (D.int .u16) t54)), .i t56] (.elt (.int .u16 z_1) 0) [] (cut_at hz_1 (fun _ => rfl)) <| Rc 2 [vw z_1, vw z_1] <| Rk <| Ro <| Rc 2 [⟨.ref [53] v_53 0 (mY b_53).length 1, []⟩, vw z_1] ?_
  obtain ⟨r_3, hr_3, h⟩ := bind_s h
  have hc_3 := index_Two_L z_1 r_3 hr_3
  refine Rt (some 62) (.callf 62) [] none [.w z_1] (.d (.sl (mY r_3))) [] (cc hc_3) ?_
  obtain ⟨z_2, hz_2, h⟩ := bind_s h
  refine Rt (some 63) (.append 1 1 false) [] none [.ref [53] v_53 0 (mY b_53).length 1, .d (.sl (mY r_3))] (.ref [53] (v_53 + 1) 0 (mY z_2).length 1) [([53], some (.arr (mY z_2) (v_53 + 1) false))] (cut_appR (e := (D.int .u8)) (l := b_53) (fz := false) (ws := []) (ap_data _) (fun _ => rfl) hz_2 (by kernel_rfl) (by kernel_rfl) rfl) <| Rc 1 [⟨.ref [53] (v_53 + 1) 0 (mY z_2).length 1, []⟩] <| Rd <| kB_nrm <| kS_nrm <| Ro <| Rc 2 [vi (IntKind.wrap .i64 (t56 + 1)), vi (IntKind.wrap .i64 (t56 + 1))] <| Rd ?_
  obtain rfl := sj h
  exact ⟨rfl, (v_53 + 1), (Canon.same (by kernel_rfl) Cz)⟩
 | false =>
  replace h := ite_f hb_2 h
  refine Cf <| Runs.exit <| kS_exit ?_
  obtain rfl := sj h
  exact ⟨nofun, rfl, v_53, Cz⟩
theorem mz_Write_l39_ok (x_ : Image) (x1 : Image) (b_53 : (List Int)) (n4 : Int) (t66 : (List Int)) (t67 : Int) (t68 : Int) (v_53 : Nat) (r : (Lp ((List Int) × Int) (List Int))) (h : mz_Write_l39 x1 b_53 n4 t66 t67 t68 = some r) : Runs L F31l39 (mz_Write_h39 x1 b_53 n4 t66 t67 t68 v_53) (LQ [] [1, 4, 7, 66, 67, 68] [[1], [53]] (fun (x : ((List Int) × Int)) (g : Nat) => mz_Write_h39 x1 x.1 n4 t66 t67 x.2 g) (mz_Write_P39 x_ x1 n4 t66 t67) r) := by
 unfold mz_Write_l39 at h
 refine Sq <| Ro <| Rc 1 [vb (decide (t68 < t67))] <| Rk <| Sq ?_
 cases hb_2 : ((decide (t68 < t67)) : Bool) with
 | true =>
  replace h := ite_t hb_2 h
  refine Ct <| Runs.skip <| kS_nrm <| Sq <| Runs.block <| Sq <| Ro ?_
  obtain ⟨z_1, hz_1, h⟩ := bind_s h
  refine Rt (some 70) (.iaddrS 1) [] none [.d (.sl (List.map (D.int .i64) t66)), .i t68] (.elt (.int .i64 z_1) 0) [] (cut_at hz_1 (fun _ => rfl)) <| Rc 2 [vi z_1, vi z_1] <| Rk <| Sq <| Ro <| Rc 2 [vi z_1, vu (IntKind.wrap .u32 z_1)] ?_
  obtain ⟨r_3, hr_3, h⟩ := bind_s h
  have hc_3 := bits_Normal_L (IntKind.wrap .u32 z_1) r_3 hr_3
  refine Rt (some 75) (.callf 71) [] none [.u (IntKind.wrap .u32 z_1)] (.tup [.w r_3.1, .w r_3.2]) [] (cc hc_3) <| Rc 5 [⟨.tup [.w r_3.1, .w r_3.2], []⟩, vw r_3.1, vw r_3.2, vw r_3.1, vw r_3.2] <| Rk <| Ro <| Rc 2 [⟨.ref [53] v_53 0 (mY b_53).length 1, []⟩, vw r_3.2] ?_
  obtain ⟨r_4, hr_4, h⟩ := bind_s h
  have hc_4 := index_Two_L r_3.2 r_4 hr_4
  refine Rt (some 80) (.callf 62) [] none [.w r_3.2] (.d (.sl (mY r_4))) [] (cc hc_4) ?_
  obtain ⟨z_2, hz_2, h⟩ := bind_s h
  refine Rt (some 81) (.append 1 1 false) [] none [.ref [53] v_53 0 (mY b_53).length 1, .d (.sl (mY r_4))] (.ref [53] (v_53 + 1) 0 (mY z_2).length 1) [([53], some (.arr (mY z_2) (v_53 + 1) false))] (cut_appR (e := (D.int .u8)) (l := b_53) (fz := false) (ws := []) (ap_data _) (fun _ => rfl) hz_2 (by kernel_rfl) (by kernel_rfl) rfl) <| Rc 1 [vw r_3.1] ?_
  obtain ⟨r_5, hr_5, h⟩ := bind_s h
  have hc_5 := index_Two_L r_3.1 r_5 hr_5
  refine Rt (some 83) (.callf 62) [] none [.w r_3.1] (.d (.sl (mY r_5))) [] (cc hc_5) ?_
  obtain ⟨z_3, hz_3, h⟩ := bind_s h
  refine Rt (some 84) (.append 1 1 false) [] none [.ref [53] (v_53 + 1) 0 (mY z_2).length 1, .d (.sl (mY r_5))] (.ref [53] ((v_53 + 1) + 1) 0 (mY z_3).length 1) [([53], some (.arr (mY z_3) ((v_53 + 1) + 1) false))] (cut_appR (e := (D.int .u8)) (l := z_2) (fz := false) (ws := []) (ap_data _) (fun _ => rfl) hz_3 (by kernel_rfl) (by kernel_rfl) rfl) <| Rc 1 [⟨.ref [53] ((v_53 + 1) + 1) 0 (mY z_3).length 1, []⟩] <| Rd <| kB_nrm <| kS_nrm <| Ro <| Rc 2 [vi (IntKind.wrap .i64 (t68 + 1)), vi (IntKind.wrap .i64 (t68 + 1))] <| Rd ?_
  obtain rfl := sj h
  exact ⟨rfl, ((v_53 + 1) + 1), Cz⟩
 | false =>
  replace h := ite_f hb_2 h
  refine Cf <| Runs.exit <| kS_exit ?_
  obtain rfl := sj h
  exact ⟨nofun, rfl, v_53, Cz⟩
theorem mz_Write_ok (x_ : Image) (r : ((List Int) × Int)) (h : mz_Write x_ = some r) : Runs L F31.body ⟨tmOf [.d (Image.d x_)] 0, updW (fun _ => none) []⟩ (mz_Write_Q x_ r) := by
 unfold mz_Write at h
 refine Sq <| Ro <| Rc 3 [⟨.ptr [1] 0 0, [([1], some (.cells [.d (.sl (mY x_.Bytes)), .d (.sl (List.map (D.int .i64) x_.Relocs)), .w x_.CS, .w x_.IP, .w x_.SS, .w x_.SP, .i x_.Min] 0))]⟩, ⟨.nils, []⟩, vi 0] <| Rk <| Sq <| Sq <| Ro <| Rc 1 [⟨.d (Image.d x_), []⟩] ?_
 obtain ⟨r_1, hr_1, h⟩ := bind_s h
 have hc_1 := mz_May_L x_ r_1 hr_1
 refine Rt (some 15) (.callf 34) [] none [.d (Image.d x_)] (.b r_1) [] (cc hc_1) <| Rc 1 [vb (!r_1)] <| Rk ?_
 cases hb_1 : ((!r_1) : Bool) with
 | true =>
  replace h := ite_t hb_1 h
  refine Ct <| Sq <| Ro <| Rc 2 [⟨.nils, []⟩, vi 1] <| Rk <| Sq <| Runs.gcons (frz_nil (D.int .u8) (by kernel_rfl)) <| Runs.gnil <| kS_nrm <| Runs.ret <| kS_ret ?_
  cases h
  exact Fq
 | false =>
  replace h := ite_f hb_1 h
  refine Cf <| Runs.skip <| kS_nrm <| Sq <| Ro <| Rc 2 [vp [1] 0 1, ⟨.d (.sl (List.map (D.int .i64) x_.Relocs)), []⟩] <| Rt (some 19) .lenL [] none [.d (.sl (List.map (D.int .i64) x_.Relocs))] (.i (x_.Relocs.length : Int)) [] (cut_len _) ?_
  obtain ⟨r_2, hr_2, h⟩ := bind_s h
  have hc_2 := mz_head_L (x_.Relocs.length : Int) r_2 hr_2
  refine Rt (some 20) (.callf 70) [] none [.i (x_.Relocs.length : Int)] (.i r_2) [] (cc hc_2) <| Rc 1 [vi r_2] <| Rk <| Sq <| Ro <| Rc 3 [vi r_2, vp [1] 0 0, ⟨.d (.sl (mY x_.Bytes)), []⟩] <| Rt (some 24) .lenL [] none [.d (.sl (mY x_.Bytes))] (.i (x_.Bytes.length : Int)) [] (cut_len _) <| Rc 2 [vi (IntKind.wrap .i64 (r_2 + (x_.Bytes.length : Int))), vi (IntKind.wrap .i64 (r_2 + (x_.Bytes.length : Int)))] <| Rk <| Sq <| Ro <| Rc 10 [vi (IntKind.wrap .i64 (r_2 + (x_.Bytes.length : Int))), vi (Int.tmod (IntKind.wrap .i64 (r_2 + (x_.Bytes.length : Int))) 512), vw (IntKind.wrap .u16 (Int.tmod (IntKind.wrap .i64 (r_2 + (x_.Bytes.length : Int))) 512)), vi (IntKind.wrap .i64 (r_2 + (x_.Bytes.length : Int))), vi (IntKind.wrap .i64 ((IntKind.wrap .i64 (r_2 + (x_.Bytes.length : Int))) + 512)), vi (IntKind.wrap .i64 ((IntKind.wrap .i64 ((IntKind.wrap .i64 (r_2 + (x_.Bytes.length : Int))) + 512)) - 1)), vi (IntKind.wrap .i64 (Int.tdiv (IntKind.wrap .i64 ((IntKind.wrap .i64 ((IntKind.wrap .i64 (r_2 + (x_.Bytes.length : Int))) + 512)) - 1)) 512)), vw (IntKind.wrap .u16 (IntKind.wrap .i64 (Int.tdiv (IntKind.wrap .i64 ((IntKind.wrap .i64 ((IntKind.wrap .i64 (r_2 + (x_.Bytes.length : Int))) + 512)) - 1)) 512))), vp [1] 0 1, ⟨.d (.sl (List.map (D.int .i64) x_.Relocs)), []⟩] ?_
  refine Rt (some 36) .lenL [] none [.d (.sl (List.map (D.int .i64) x_.Relocs))] (.i (x_.Relocs.length : Int)) [] (cut_len _) <| Rc 17 [vw (IntKind.wrap .u16 (x_.Relocs.length : Int)), vi r_2, vi (IntKind.wrap .i64 (Int.tdiv r_2 16)), vw (IntKind.wrap .u16 (IntKind.wrap .i64 (Int.tdiv r_2 16))), vp [1] 0 6, vi x_.Min, vw (IntKind.wrap .u16 x_.Min), vp [1] 0 4, vw x_.SS, vp [1] 0 5, vw x_.SP, vp [1] 0 3, vw x_.IP, vp [1] 0 2, vw x_.CS, ⟨.ref [52] 0 0 (List.map (D.int .u16) ([(IntKind.wrap .u16 (Int.tmod (IntKind.wrap .i64 (r_2 + (x_.Bytes.length : Int))) 512)), (IntKind.wrap .u16 (IntKind.wrap .i64 (Int.tdiv (IntKind.wrap .i64 ((IntKind.wrap .i64 ((IntKind.wrap .i64 (r_2 + (x_.Bytes.length : Int))) + 512)) - 1)) 512))), (IntKind.wrap .u16 (x_.Relocs.length : Int)), (IntKind.wrap .u16 (IntKind.wrap .i64 (Int.tdiv r_2 16))), (IntKind.wrap .u16 x_.Min), 65535, x_.SS, x_.SP, 0, x_.IP, x_.CS, 28, 0] : List Int)).length 1, [([52], some (.arr (List.map (D.int .u16) ([(IntKind.wrap .u16 (Int.tmod (IntKind.wrap .i64 (r_2 + (x_.Bytes.length : Int))) 512)), (IntKind.wrap .u16 (IntKind.wrap .i64 (Int.tdiv (IntKind.wrap .i64 ((IntKind.wrap .i64 ((IntKind.wrap .i64 (r_2 + (x_.Bytes.length : Int))) + 512)) - 1)) 512))), (IntKind.wrap .u16 (x_.Relocs.length : Int)), (IntKind.wrap .u16 (IntKind.wrap .i64 (Int.tdiv r_2 16))), (IntKind.wrap .u16 x_.Min), 65535, x_.SS, x_.SP, 0, x_.IP, x_.CS, 28, 0] : List Int)) 0 false))]⟩, ⟨.ref [52] 0 0 (List.map (D.int .u16) ([(IntKind.wrap .u16 (Int.tmod (IntKind.wrap .i64 (r_2 + (x_.Bytes.length : Int))) 512)), (IntKind.wrap .u16 (IntKind.wrap .i64 (Int.tdiv (IntKind.wrap .i64 ((IntKind.wrap .i64 ((IntKind.wrap .i64 (r_2 + (x_.Bytes.length : Int))) + 512)) - 1)) 512))), (IntKind.wrap .u16 (x_.Relocs.length : Int)), (IntKind.wrap .u16 (IntKind.wrap .i64 (Int.tdiv r_2 16))), (IntKind.wrap .u16 x_.Min), 65535, x_.SS, x_.SP, 0, x_.IP, x_.CS, 28, 0] : List Int)).length 1, []⟩] ?_
  refine Rk <| Sq <| Ro <| Rc 2 [⟨.ref [53] 0 0 (mY ([77, 90] : List Int)).length 1, [([53], some (.arr (mY ([77, 90] : List Int)) 0 false))]⟩, ⟨.ref [53] 0 0 (mY ([77, 90] : List Int)).length 1, []⟩] <| Rk <| Sq <| Sq <| Ro <| Rc 1 [⟨.ref [52] 0 0 (List.map (D.int .u16) ([(IntKind.wrap .u16 (Int.tmod (IntKind.wrap .i64 (r_2 + (x_.Bytes.length : Int))) 512)), (IntKind.wrap .u16 (IntKind.wrap .i64 (Int.tdiv (IntKind.wrap .i64 ((IntKind.wrap .i64 ((IntKind.wrap .i64 (r_2 + (x_.Bytes.length : Int))) + 512)) - 1)) 512))), (IntKind.wrap .u16 (x_.Relocs.length : Int)), (IntKind.wrap .u16 (IntKind.wrap .i64 (Int.tdiv r_2 16))), (IntKind.wrap .u16 x_.Min), 65535, x_.SS, x_.SP, 0, x_.IP, x_.CS, 28, 0] : List Int)).length 1, []⟩] <| Rt (some 55) .lenL [] none [.ref [52] 0 0 (List.map (D.int .u16) ([(IntKind.wrap .u16 (Int.tmod (IntKind.wrap .i64 (r_2 + (x_.Bytes.length : Int))) 512)), (IntKind.wrap .u16 (IntKind.wrap .i64 (Int.tdiv (IntKind.wrap .i64 ((IntKind.wrap .i64 ((IntKind.wrap .i64 (r_2 + (x_.Bytes.length : Int))) + 512)) - 1)) 512))), (IntKind.wrap .u16 (x_.Relocs.length : Int)), (IntKind.wrap .u16 (IntKind.wrap .i64 (Int.tdiv r_2 16))), (IntKind.wrap .u16 x_.Min), 65535, x_.SS, x_.SP, 0, x_.IP, x_.CS, 28, 0] : List Int)).length 1] (.i (([(IntKind.wrap .u16 (Int.tmod (IntKind.wrap .i64 (r_2 + (x_.Bytes.length : Int))) 512)), (IntKind.wrap .u16 (IntKind.wrap .i64 (Int.tdiv (IntKind.wrap .i64 ((IntKind.wrap .i64 ((IntKind.wrap .i64 (r_2 + (x_.Bytes.length : Int))) + 512)) - 1)) 512))), (IntKind.wrap .u16 (x_.Relocs.length : Int)), (IntKind.wrap .u16 (IntKind.wrap .i64 (Int.tdiv r_2 16))), (IntKind.wrap .u16 x_.Min), 65535, x_.SS, x_.SP, 0, x_.IP, x_.CS, 28, 0] : List Int).length : Int)) [] (cut_lenR (e := (D.int .u16)) ([(IntKind.wrap .u16 (Int.tmod (IntKind.wrap .i64 (r_2 + (x_.Bytes.length : Int))) 512)), (IntKind.wrap .u16 (IntKind.wrap .i64 (Int.tdiv (IntKind.wrap .i64 ((IntKind.wrap .i64 ((IntKind.wrap .i64 (r_2 + (x_.Bytes.length : Int))) + 512)) - 1)) 512))), (IntKind.wrap .u16 (x_.Relocs.length : Int)), (IntKind.wrap .u16 (IntKind.wrap .i64 (Int.tdiv r_2 16))), (IntKind.wrap .u16 x_.Min), 65535, x_.SS, x_.SP, 0, x_.IP, x_.CS, 28, 0] : List Int) rfl) ?_
  refine Rc 1 [vi 0] <| Rk <| Runs.block ?_
  obtain ⟨e_1, he_1, h⟩ := bind_s h
  refine Runs.loop (fun x : ((List Int) × Int) => mz_Write_l22 x_ x.1 r_2 ([(IntKind.wrap .u16 (Int.tmod (IntKind.wrap .i64 (r_2 + (x_.Bytes.length : Int))) 512)), (IntKind.wrap .u16 (IntKind.wrap .i64 (Int.tdiv (IntKind.wrap .i64 ((IntKind.wrap .i64 ((IntKind.wrap .i64 (r_2 + (x_.Bytes.length : Int))) + 512)) - 1)) 512))), (IntKind.wrap .u16 (x_.Relocs.length : Int)), (IntKind.wrap .u16 (IntKind.wrap .i64 (Int.tdiv r_2 16))), (IntKind.wrap .u16 x_.Min), 65535, x_.SS, x_.SP, 0, x_.IP, x_.CS, 28, 0] : List Int) (([(IntKind.wrap .u16 (Int.tmod (IntKind.wrap .i64 (r_2 + (x_.Bytes.length : Int))) 512)), (IntKind.wrap .u16 (IntKind.wrap .i64 (Int.tdiv (IntKind.wrap .i64 ((IntKind.wrap .i64 ((IntKind.wrap .i64 (r_2 + (x_.Bytes.length : Int))) + 512)) - 1)) 512))), (IntKind.wrap .u16 (x_.Relocs.length : Int)), (IntKind.wrap .u16 (IntKind.wrap .i64 (Int.tdiv r_2 16))), (IntKind.wrap .u16 x_.Min), 65535, x_.SS, x_.SP, 0, x_.IP, x_.CS, 28, 0] : List Int).length : Int) x.2) (fun (x : ((List Int) × Int)) (g : Nat) => mz_Write_h22 x_ x.1 r_2 ([(IntKind.wrap .u16 (Int.tmod (IntKind.wrap .i64 (r_2 + (x_.Bytes.length : Int))) 512)), (IntKind.wrap .u16 (IntKind.wrap .i64 (Int.tdiv (IntKind.wrap .i64 ((IntKind.wrap .i64 ((IntKind.wrap .i64 (r_2 + (x_.Bytes.length : Int))) + 512)) - 1)) 512))), (IntKind.wrap .u16 (x_.Relocs.length : Int)), (IntKind.wrap .u16 (IntKind.wrap .i64 (Int.tdiv r_2 16))), (IntKind.wrap .u16 x_.Min), 65535, x_.SS, x_.SP, 0, x_.IP, x_.CS, 28, 0] : List Int) (([(IntKind.wrap .u16 (Int.tmod (IntKind.wrap .i64 (r_2 + (x_.Bytes.length : Int))) 512)), (IntKind.wrap .u16 (IntKind.wrap .i64 (Int.tdiv (IntKind.wrap .i64 ((IntKind.wrap .i64 ((IntKind.wrap .i64 (r_2 + (x_.Bytes.length : Int))) + 512)) - 1)) 512))), (IntKind.wrap .u16 (x_.Relocs.length : Int)), (IntKind.wrap .u16 (IntKind.wrap .i64 (Int.tdiv r_2 16))), (IntKind.wrap .u16 x_.Min), 65535, x_.SS, x_.SP, 0, x_.IP, x_.CS, 28, 0] : List Int).length : Int) x.2 g) (mz_Write_P22 x_ x_ r_2 ([(IntKind.wrap .u16 (Int.tmod (IntKind.wrap .i64 (r_2 + (x_.Bytes.length : Int))) 512)), (IntKind.wrap .u16 (IntKind.wrap .i64 (Int.tdiv (IntKind.wrap .i64 ((IntKind.wrap .i64 ((IntKind.wrap .i64 (r_2 + (x_.Bytes.length : Int))) + 512)) - 1)) 512))), (IntKind.wrap .u16 (x_.Relocs.length : Int)), (IntKind.wrap .u16 (IntKind.wrap .i64 (Int.tdiv r_2 16))), (IntKind.wrap .u16 x_.Min), 65535, x_.SS, x_.SP, 0, x_.IP, x_.CS, 28, 0] : List Int) (([(IntKind.wrap .u16 (Int.tmod (IntKind.wrap .i64 (r_2 + (x_.Bytes.length : Int))) 512)), (IntKind.wrap .u16 (IntKind.wrap .i64 (Int.tdiv (IntKind.wrap .i64 ((IntKind.wrap .i64 ((IntKind.wrap .i64 (r_2 + (x_.Bytes.length : Int))) + 512)) - 1)) 512))), (IntKind.wrap .u16 (x_.Relocs.length : Int)), (IntKind.wrap .u16 (IntKind.wrap .i64 (Int.tdiv r_2 16))), (IntKind.wrap .u16 x_.Min), 65535, x_.SS, x_.SP, 0, x_.IP, x_.CS, 28, 0] : List Int).length : Int)) (fun x g r hr => mz_Write_l22_ok x_ x_ x.1 r_2 ([(IntKind.wrap .u16 (Int.tmod (IntKind.wrap .i64 (r_2 + (x_.Bytes.length : Int))) 512)), (IntKind.wrap .u16 (IntKind.wrap .i64 (Int.tdiv (IntKind.wrap .i64 ((IntKind.wrap .i64 ((IntKind.wrap .i64 (r_2 + (x_.Bytes.length : Int))) + 512)) - 1)) 512))), (IntKind.wrap .u16 (x_.Relocs.length : Int)), (IntKind.wrap .u16 (IntKind.wrap .i64 (Int.tdiv r_2 16))), (IntKind.wrap .u16 x_.Min), 65535, x_.SS, x_.SP, 0, x_.IP, x_.CS, 28, 0] : List Int) (([(IntKind.wrap .u16 (Int.tmod (IntKind.wrap .i64 (r_2 + (x_.Bytes.length : Int))) 512)), (IntKind.wrap .u16 (IntKind.wrap .i64 (Int.tdiv (IntKind.wrap .i64 ((IntKind.wrap .i64 ((IntKind.wrap .i64 (r_2 + (x_.Bytes.length : Int))) + 512)) - 1)) 512))), (IntKind.wrap .u16 (x_.Relocs.length : Int)), (IntKind.wrap .u16 (IntKind.wrap .i64 (Int.tdiv r_2 16))), (IntKind.wrap .u16 x_.Min), 65535, x_.SS, x_.SP, 0, x_.IP, x_.CS, 28, 0] : List Int).length : Int) x.2 g r hr) 0 he_1 (Canon.cons (frz_ref (e := (D.int .u16)) (l := ([(IntKind.wrap .u16 (Int.tmod (IntKind.wrap .i64 (r_2 + (x_.Bytes.length : Int))) 512)), (IntKind.wrap .u16 (IntKind.wrap .i64 (Int.tdiv (IntKind.wrap .i64 ((IntKind.wrap .i64 ((IntKind.wrap .i64 (r_2 + (x_.Bytes.length : Int))) + 512)) - 1)) 512))), (IntKind.wrap .u16 (x_.Relocs.length : Int)), (IntKind.wrap .u16 (IntKind.wrap .i64 (Int.tdiv r_2 16))), (IntKind.wrap .u16 x_.Min), 65535, x_.SS, x_.SP, 0, x_.IP, x_.CS, 28, 0] : List Int)) (id := [52]) (v := 0) (n := 1) (fz := false) (by kernel_rfl) (by kernel_rfl) rfl) Cz) ?_
  rintro ⟨o, s⟩ hp
  obtain ⟨ho, g_1, hk_1⟩ := hp
  have ho' : o = .exit 0 := ho
  subst ho'
  refine kB_hit <| kS_nrm <| Runs.canon _ hk_1 <| Sq <| Sq <| Ro <| Rc 2 [vp [1] 0 1, ⟨.d (.sl (List.map (D.int .i64) x_.Relocs)), []⟩] <| Rt (some 67) .lenL [] none [.d (.sl (List.map (D.int .i64) x_.Relocs))] (.i (x_.Relocs.length : Int)) [] (cut_len _) <| Rc 1 [vi 0] <| Rk <| Runs.block ?_
  obtain ⟨e_2, he_2, h⟩ := bind_s h
  refine Runs.loop (fun x : ((List Int) × Int) => mz_Write_l39 x_ x.1 r_2 x_.Relocs (x_.Relocs.length : Int) x.2) (fun (x : ((List Int) × Int)) (g : Nat) => mz_Write_h39 x_ x.1 r_2 x_.Relocs (x_.Relocs.length : Int) x.2 g) (mz_Write_P39 x_ x_ r_2 x_.Relocs (x_.Relocs.length : Int)) (fun x g r hr => mz_Write_l39_ok x_ x_ x.1 r_2 x_.Relocs (x_.Relocs.length : Int) x.2 g r hr) g_1 he_2 Cz ?_
  rintro ⟨o, s⟩ hp
  obtain ⟨ho, g_2, hk_2⟩ := hp
  have ho' : o = .exit 2 := ho
  subst ho'
  refine kB_hit <| kS_nrm <| Runs.canon _ hk_2 <| Sq <| Ro <| Rc 3 [⟨.ref [53] g_2 0 (mY e_2).length 1, []⟩, vi r_2, ⟨.ref [53] g_2 0 (mY e_2).length 1, []⟩] <| Rt (some 89) .lenL [] none [.ref [53] g_2 0 (mY e_2).length 1] (.i (e_2.length : Int)) [] (cut_lenR (e := (D.int .u8)) e_2 rfl) <| Rc 1 [vi (IntKind.wrap .i64 (r_2 - (e_2.length : Int)))] ?_
  obtain ⟨z_1, hz_1, h⟩ := bind_s h
  refine Rt (some 91) (.appmk (.int .u8 0) 1) [] none [.ref [53] g_2 0 (mY e_2).length 1, .i (IntKind.wrap .i64 (r_2 - (e_2.length : Int)))] (.ref [53] (g_2 + 1) 0 (mY z_1).length 1) [([53], some (.arr (mY z_1) (g_2 + 1) false))] (cut_apzR (e := (D.int .u8)) (l := e_2) (z := 0) (fz := false) hz_1 rfl (by kernel_rfl) (by kernel_rfl) rfl) <| Rc 1 [⟨.ref [53] (g_2 + 1) 0 (mY z_1).length 1, []⟩] <| Rk <| Sq <| Ro <| Rc 3 [⟨.ref [53] (g_2 + 1) 0 (mY z_1).length 1, []⟩, vp [1] 0 0, ⟨.d (.sl (mY x_.Bytes)), []⟩] ?_
  obtain ⟨z_2, hz_2, h⟩ := bind_s h
  refine Rt (some 95) (.append 1 1 false) [] none [.ref [53] (g_2 + 1) 0 (mY z_1).length 1, .d (.sl (mY x_.Bytes))] (.ref [53] ((g_2 + 1) + 1) 0 (mY z_2).length 1) [([53], some (.arr (mY z_2) ((g_2 + 1) + 1) false))] (cut_appR (e := (D.int .u8)) (l := z_1) (fz := false) (ws := []) (ap_data _) (fun _ => rfl) hz_2 (by kernel_rfl) (by kernel_rfl) rfl) <| Rc 2 [⟨.ref [53] ((g_2 + 1) + 1) 0 (mY z_2).length 1, []⟩, vi 0] <| Rk <| Sq <| Runs.gcons (frz_ref (e := (D.int .u8)) (l := z_2) (id := [53]) (v := ((g_2 + 1) + 1)) (n := 1) (fz := false) (by kernel_rfl) (by kernel_rfl) rfl) <| Runs.gnil <| kS_nrm <| Runs.ret ?_
  cases h
  exact Fq
theorem mz_Write_L (x_ : Image) (r : ((List Int) × Int)) (h : mz_Write x_ = some r) : L 31 [.d (Image.d x_)] = some (.tup [.d (.sl (mY r.1)), .i r.2], [.d (Image.d x_)]) := by
 obtain ⟨p, ⟨hne, hf⟩, hr⟩ := mz_Write_ok x_ r h
 obtain ⟨k, hk⟩ := run_of (F := F31) (args := [.d (Image.d x_)]) (ap := [.d (Image.d x_)]) (bx0 := updW (fun _ => none) []) rfl rfl (by kernel_rfl) ⟨p, ⟨hne, hf⟩, hr⟩
 exact lim_run (k := k) rfl hk
def hansomlaw44_MzMay_h57n (y7 : Image) (want9 : Int) (v_26 : Nat) (v_0_13 : Nat) (n_26 : Nat) : St := ⟨tab [(7, .ptr [7] 0 0), (9, .i want9)], tabB [([7], some (.cells [.ref [0, 13] v_0_13 0 (mY y7.Bytes).length 1, .ref [26] v_26 0 n_26 1, .w y7.CS, .w y7.IP, .w y7.SS, .w y7.SP, .i y7.Min] 0)), ([26], some (.arr (List.map (D.int .i64) y7.Relocs) v_26 false)), ([0, 13], some (.arr (mY y7.Bytes) v_0_13 false))]⟩
def hansomlaw44_MzMay_h57 (y7 : Image) (want9 : Int) (v_26 : Nat) (v_0_13 : Nat) : St := hansomlaw44_MzMay_h57n y7 want9 v_26 v_0_13 (List.map (D.int .i64) y7.Relocs).length
def hansomlaw44_MzMay_Q (x_ : Image) (kind_ : Int) (n_ : Int) (r : Bool) (p : Out × St) : Prop := (∀ i, p.1 ≠ .exit i) ∧ finF F7 [.d (Image.d x_), .i kind_, .i n_] p.2 = some (.b r, [.d (Image.d x_), .i kind_, .i n_])
theorem hansomlaw44_MzMay_j57_ok (x_ : Image) (kind_ : Int) (n_ : Int) (y7 : Image) (want9 : Int) (v_26 : Nat) (v_0_13 : Nat) (r : Bool) (h : hansomlaw44_MzMay_j57 y7 want9 = some r) : Runs L F7b57 (hansomlaw44_MzMay_h57 y7 want9 v_26 v_0_13) (hansomlaw44_MzMay_Q x_ kind_ n_ r) := by
 unfold hansomlaw44_MzMay_j57 at h
 refine Sq <| Ro <| Rc 1 [⟨.mix [.ref [0, 13] v_0_13 0 (mY y7.Bytes).length 1, .ref [26] v_26 0 (List.map (D.int .i64) y7.Relocs).length 1, .w y7.CS, .w y7.IP, .w y7.SS, .w y7.SP, .i y7.Min], []⟩] ?_
 obtain ⟨r_2, hr_2, h⟩ := bind_s h
 have hc_2 := mz_Write_L y7 r_2 hr_2
 refine Rt (some 86) (.callf 31) [] none [.mix [.ref [0, 13] v_0_13 0 (mY y7.Bytes).length 1, .ref [26] v_26 0 (List.map (D.int .i64) y7.Relocs).length 1, .w y7.CS, .w y7.IP, .w y7.SS, .w y7.SP, .i y7.Min]] (.tup [.d (.sl (mY r_2.1)), .i r_2.2]) [([0, 13], some (.arr (mY y7.Bytes) v_0_13 true)), ([26], some (.arr (List.map (D.int .i64) y7.Relocs) v_26 true))] (cut_call (call_of (ws := [([0, 13], some (.arr (mY y7.Bytes) v_0_13 true)), ([26], some (.arr (List.map (D.int .i64) y7.Relocs) v_26 true))]) (us := [([0, 13], some (.arr (mY y7.Bytes) v_0_13 true)), ([26], some (.arr (List.map (D.int .i64) y7.Relocs) v_26 true))]) (by kernel_rfl) (gives_cons (ws := [([0, 13], some (.arr (mY y7.Bytes) v_0_13 true)), ([26], some (.arr (List.map (D.int .i64) y7.Relocs) v_26 true))]) (give_mix (snaps_r (e := (D.int .u8)) (l := y7.Bytes) (fz := false) (by kernel_rfl) (by kernel_rfl) (hl := rfl) (snaps_r (e := (D.int .i64)) (l := y7.Relocs) (fz := false) (by kernel_rfl) (by kernel_rfl) (hl := rfl) (snaps_d (snaps_d (snaps_d (snaps_d (snaps_d snaps_nil)))))))) gives_nil) hc_2 (by kernel_rfl) (by kernel_rfl))) <| Rc 5 [⟨.tup [.d (.sl (mY r_2.1)), .i r_2.2], []⟩, ⟨.d (.sl (mY r_2.1)), []⟩, vi r_2.2, ⟨.d (.sl (mY r_2.1)), []⟩, vi r_2.2] ?_
 refine Rk <| Sq <| Ro ?_
 obtain ⟨r_3, hr_3, h⟩ := bind_s h
 have hc_3 := hansomlaw44_awake_L r_3 hr_3
 refine Rt (some 89) (.callf 33) [] none [] (.b r_3) [] (cc hc_3) <| Rc 1 [vb r_3] ?_
 cases hb_2 : (r_3 : Bool) with
 | true =>
  replace h := ite_t hb_2 h
  refine Rc 5 [vi r_2.2, vi want9, vb (r_2.2 == want9), vb (r_2.2 == want9), vb (r_2.2 == want9)] ?_
  cases hb_3 : ((r_2.2 == want9) : Bool) with
  | true =>
   replace h := ite_t hb_3 h
   refine Rc 1 [⟨.mix [.ref [0, 13] v_0_13 0 (mY y7.Bytes).length 1, .ref [26] v_26 0 (List.map (D.int .i64) y7.Relocs).length 1, .w y7.CS, .w y7.IP, .w y7.SS, .w y7.SP, .i y7.Min], []⟩] ?_
   obtain ⟨r_4, hr_4, h⟩ := bind_s h
   have hc_4 := mz_May_L y7 r_4 hr_4
   refine Rt (some 97) (.callf 34) [] none [.mix [.ref [0, 13] v_0_13 0 (mY y7.Bytes).length 1, .ref [26] v_26 0 (List.map (D.int .i64) y7.Relocs).length 1, .w y7.CS, .w y7.IP, .w y7.SS, .w y7.SP, .i y7.Min]] (.b r_4) [([0, 13], some (.arr (mY y7.Bytes) v_0_13 true)), ([26], some (.arr (List.map (D.int .i64) y7.Relocs) v_26 true))] (cut_call (call_of (ws := [([0, 13], some (.arr (mY y7.Bytes) v_0_13 true)), ([26], some (.arr (List.map (D.int .i64) y7.Relocs) v_26 true))]) (us := [([0, 13], some (.arr (mY y7.Bytes) v_0_13 true)), ([26], some (.arr (List.map (D.int .i64) y7.Relocs) v_26 true))]) (by kernel_rfl) (gives_cons (ws := [([0, 13], some (.arr (mY y7.Bytes) v_0_13 true)), ([26], some (.arr (List.map (D.int .i64) y7.Relocs) v_26 true))]) (give_mix (snaps_r (e := (D.int .u8)) (l := y7.Bytes) (fz := true) (by kernel_rfl) (by kernel_rfl) (hl := rfl) (snaps_r (e := (D.int .i64)) (l := y7.Relocs) (fz := true) (by kernel_rfl) (by kernel_rfl) (hl := rfl) (snaps_d (snaps_d (snaps_d (snaps_d (snaps_d snaps_nil)))))))) gives_nil) hc_4 (by kernel_rfl) (by kernel_rfl))) <| Rc 5 [vi want9, vb (want9 == 0), vb (r_4 == (want9 == 0)), vb (r_4 == (want9 == 0)), vb (r_4 == (want9 == 0))] ?_
   cases hb_4 : ((r_4 == (want9 == 0)) : Bool) with
   | true =>
    replace h := ite_t hb_4 h
    refine Rc 1 [⟨.d (.sl (mY r_2.1)), []⟩] <| Rt (some 104) .lenL [] none [.d (.sl (mY r_2.1))] (.i (r_2.1.length : Int)) [] (cut_len _) <| Rc 6 [vb (decide ((r_2.1.length : Int) > 0)), vi want9, vb (want9 == 0), vb ((decide ((r_2.1.length : Int) > 0)) == (want9 == 0)), vb ((decide ((r_2.1.length : Int) > 0)) == (want9 == 0)), vb ((decide ((r_2.1.length : Int) > 0)) == (want9 == 0))] <| Rk <| Runs.ret ?_
    cases h
    exact Fq
   | false =>
    replace h := ite_f hb_4 h
    refine Rc 8 [vn, vn, vn, vn, vn, vn, vb false, vb false] <| Rk <| Runs.ret ?_
    cases h
    exact Fq
  | false =>
   replace h := ite_f hb_3 h
   refine Rc 15 [vn, vn, vn, vn, vn, vb false, vb false, vn, vn, vn, vn, vn, vn, vb false, vb false] <| Rk <| Runs.ret ?_
   cases h
   exact Fq
 | false =>
  replace h := ite_f hb_2 h
  refine Rc 20 [vn, vn, vn, vb false, vb false, vn, vn, vn, vn, vn, vb false, vb false, vn, vn, vn, vn, vn, vn, vb false, vb false] <| Rk <| Runs.ret ?_
  cases h
  exact Fq
theorem hansomlaw44_MzMay_ok (x_ : Image) (kind_ : Int) (n_ : Int) (r : Bool) (h : hansomlaw44_MzMay x_ kind_ n_ = some r) : Runs L F7.body ⟨tmOf [.d (Image.d x_), .i kind_, .i n_] 0, updW (fun _ => none) []⟩ (hansomlaw44_MzMay_Q x_ kind_ n_ r) := by
 unfold hansomlaw44_MzMay at h
 refine Sq <| Ro <| Rc 2 [⟨.ptr [3] 0 0, [([3], some (.cells [.d (.sl (mY x_.Bytes)), .d (.sl (List.map (D.int .i64) x_.Relocs)), .w x_.CS, .w x_.IP, .w x_.SS, .w x_.SP, .i x_.Min] 0))]⟩, vb false] <| Rk <| Sq <| Ro <| Rc 1 [⟨.d (Image.d x_), []⟩] ?_
 obtain ⟨r_1, hr_1, h⟩ := bind_s h
 have hc_1 := hansomref44_Near_L x_ r_1 hr_1
 refine Rt (some 13) (.callf 29) [] none [.d (Image.d x_)] (.mix [.ref [0, 13] 0 0 (mY r_1.Bytes).length 1, .ref [1, 13] 0 0 (List.map (D.int .i64) r_1.Relocs).length 1, .w r_1.CS, .w r_1.IP, .w r_1.SS, .w r_1.SP, .i r_1.Min]) [([0, 13], some (.arr (mY r_1.Bytes) 0 false)), ([1, 13], some (.arr (List.map (D.int .i64) r_1.Relocs) 0 false))] (cut_call (call_of (ws := []) (us := []) (by kernel_rfl) (gives_cons (ws := []) (give_same (by kernel_rfl)) gives_nil) hc_1 (by kernel_rfl) (by kernel_rfl))) <| Rc 2 [⟨.ptr [7] 0 0, [([7], some (.cells [.nils, .nils, .w 0, .w 0, .w 0, .w 0, .i 0] 0))]⟩, ⟨.tup [], [([7], some (.cells [.ref [0, 13] 0 0 (mY r_1.Bytes).length 1, .ref [1, 13] 0 0 (List.map (D.int .i64) r_1.Relocs).length 1, .w r_1.CS, .w r_1.IP, .w r_1.SS, .w r_1.SP, .i r_1.Min] 0))]⟩] <| Rk <| Sq <| Ro <| Rc 3 [vp [7] 0 0, ⟨.ref [0, 13] 0 0 (mY r_1.Bytes).length 1, []⟩, ⟨.ref [16] 0 0 (mY ([1, 2, 3, 4] : List Int)).length 1, [([16], some (.arr (mY ([1, 2, 3, 4] : List Int)) 0 false))]⟩] ?_
 obtain ⟨z_1, hz_1, h⟩ := bind_s h
 refine Rt (some 17) (.append 1 1 false) [] none [.ref [0, 13] 0 0 (mY r_1.Bytes).length 1, .ref [16] 0 0 (mY ([1, 2, 3, 4] : List Int)).length 1] (.ref [0, 13] 1 0 (mY z_1).length 1) [([0, 13], some (.arr (mY z_1) 1 false))] (cut_appR (e := (D.int .u8)) (l := r_1.Bytes) (fz := false) (ws := []) (ap_ref (e := (D.int .u8)) (l := ([1, 2, 3, 4] : List Int)) (fz := false) (by kernel_rfl) (by kernel_rfl) rfl) (fun _ => rfl) hz_1 (by kernel_rfl) (by kernel_rfl) rfl) <| Rc 2 [vp [7] 0 0, ⟨.tup [], [([7], some (.cells [.ref [0, 13] 1 0 (mY z_1).length 1, .ref [1, 13] 0 0 (List.map (D.int .i64) r_1.Relocs).length 1, .w r_1.CS, .w r_1.IP, .w r_1.SS, .w r_1.SP, .i r_1.Min] 0))]⟩] <| Rk <| Sq <| Ro <| Rc 2 [vp [7] 0 0, ⟨.ref [0, 13] 1 0 (mY z_1).length 1, []⟩] <| Rt (some 21) .lenL [] none [.ref [0, 13] 1 0 (mY z_1).length 1] (.i (z_1.length : Int)) [] (cut_lenR (e := (D.int .u8)) z_1 rfl) <| Rc 1 [vi (z_1.length : Int)] <| Rk <| Sq <| Ro <| Rc 7 [vi (z_1.length : Int), vi (IntKind.wrap .i64 ((z_1.length : Int) - 4)), vi (z_1.length : Int), vi (IntKind.wrap .i64 ((z_1.length : Int) - 2)), ⟨.ref [26] 0 0 (List.map (D.int .i64) ([(IntKind.wrap .i64 ((z_1.length : Int) - 4)), (IntKind.wrap .i64 ((z_1.length : Int) - 2))] : List Int)).length 1, [([26], some (.arr (List.map (D.int .i64) ([(IntKind.wrap .i64 ((z_1.length : Int) - 4)), (IntKind.wrap .i64 ((z_1.length : Int) - 2))] : List Int)) 0 false))]⟩, vp [7] 0 1, ⟨.tup [], [([7], some (.cells [.ref [0, 13] 1 0 (mY z_1).length 1, .ref [26] 0 0 (List.map (D.int .i64) ([(IntKind.wrap .i64 ((z_1.length : Int) - 4)), (IntKind.wrap .i64 ((z_1.length : Int) - 2))] : List Int)).length 1, .w r_1.CS, .w r_1.IP, .w r_1.SS, .w r_1.SP, .i r_1.Min] 0))]⟩] ?_
 refine Rk <| Sq <| Ro <| Rc 1 [vi 0] <| Rk <| Sq <| Sq <| Ro <| Rc 3 [vi kind_, vi (bitsOp .and .i64 kind_ 15), vi (Int.tmod (bitsOp .and .i64 kind_ 15) 7)] <| Rk <| Runs.block <| Sq <| Ro <| Rc 2 [vb ((Int.tmod (bitsOp .and .i64 kind_ 15) 7) == 0), vb ((Int.tmod (bitsOp .and .i64 kind_ 15) 7) == 0)] <| Rk ?_
 cases hb_1 : (((Int.tmod (bitsOp .and .i64 kind_ 15) 7) == 0) : Bool) with
 | true =>
  replace h := ite_t hb_1 h
  refine Ct <| Sq <| Ro <| Rc 4 [vp [7] 0 1, ⟨.ref [26] 0 0 (List.map (D.int .i64) ([(IntKind.wrap .i64 ((z_1.length : Int) - 4)), (IntKind.wrap .i64 ((z_1.length : Int) - 2))] : List Int)).length 1, []⟩, vi (z_1.length : Int), vi (IntKind.wrap .i64 ((z_1.length : Int) - 1))] ?_
  obtain ⟨z_2, hz_2, h⟩ := bind_s h
  refine Rt (some 37) (.iaddrS 1) [] none [.ref [26] 0 0 (List.map (D.int .i64) ([(IntKind.wrap .i64 ((z_1.length : Int) - 4)), (IntKind.wrap .i64 ((z_1.length : Int) - 2))] : List Int)).length 1, .i 1] (.eref [26] 0 (0 + ((1 : Int)).toNat) 0) [] (cut_atR (e := (D.int .i64)) (l := ([(IntKind.wrap .i64 ((z_1.length : Int) - 4)), (IntKind.wrap .i64 ((z_1.length : Int) - 2))] : List Int)) hz_2 rfl) <| Rt none (.store 1) [] none [.eref [26] 0 (0 + ((1 : Int)).toNat) 0, .i (IntKind.wrap .i64 ((z_1.length : Int) - 1))] (.tup []) [([26], some (.arr (List.map (D.int .i64) (List.set ([(IntKind.wrap .i64 ((z_1.length : Int) - 4)), (IntKind.wrap .i64 ((z_1.length : Int) - 2))] : List Int) ((1 : Int)).toNat (IntKind.wrap .i64 ((z_1.length : Int) - 1)))) 0 false))] (cut_setR (e := (D.int .i64)) (l := ([(IntKind.wrap .i64 ((z_1.length : Int) - 4)), (IntKind.wrap .i64 ((z_1.length : Int) - 2))] : List Int)) (y := z_2) (y' := (IntKind.wrap .i64 ((z_1.length : Int) - 1))) (ds := [.int .i64 (IntKind.wrap .i64 ((z_1.length : Int) - 1))]) (by kernel_rfl) hz_2 (by kernel_rfl) (by kernel_rfl) (by kernel_rfl) (by kernel_rfl)) <| Rk <| Ro <| Rc 1 [vi 1] <| Rd <| kB_nrm <| kS_nrm <| Runs.canon (hansomlaw44_MzMay_h57 ({ r_1 with Bytes := z_1, Relocs := (List.set ([(IntKind.wrap .i64 ((z_1.length : Int) - 4)), (IntKind.wrap .i64 ((z_1.length : Int) - 2))] : List Int) ((1 : Int)).toNat (IntKind.wrap .i64 ((z_1.length : Int) - 1))) } : Image) 1 0 1) (Canon.len (f := fun n => hansomlaw44_MzMay_h57n ({ r_1 with Bytes := z_1, Relocs := (List.set ([(IntKind.wrap .i64 ((z_1.length : Int) - 4)), (IntKind.wrap .i64 ((z_1.length : Int) - 2))] : List Int) ((1 : Int)).toNat (IntKind.wrap .i64 ((z_1.length : Int) - 1))) } : Image) 1 0 1 n) ((by simp only [List.length_map, List.length_set, cpy_length] : (List.map (D.int .i64) ([(IntKind.wrap .i64 ((z_1.length : Int) - 4)), (IntKind.wrap .i64 ((z_1.length : Int) - 2))] : List Int)).length = (List.map (D.int .i64) (List.set ([(IntKind.wrap .i64 ((z_1.length : Int) - 4)), (IntKind.wrap .i64 ((z_1.length : Int) - 2))] : List Int) ((1 : Int)).toNat (IntKind.wrap .i64 ((z_1.length : Int) - 1)))).length)).symm Cz) ?_
  exact hansomlaw44_MzMay_j57_ok x_ kind_ n_ ({ r_1 with Bytes := z_1, Relocs := (List.set ([(IntKind.wrap .i64 ((z_1.length : Int) - 4)), (IntKind.wrap .i64 ((z_1.length : Int) - 2))] : List Int) ((1 : Int)).toNat (IntKind.wrap .i64 ((z_1.length : Int) - 1))) } : Image) 1 0 1 r h
 | false =>
  replace h := ite_f hb_1 h
  refine Cf <| Sq <| Ro <| Rc 2 [vb ((Int.tmod (bitsOp .and .i64 kind_ 15) 7) == 1), vb ((Int.tmod (bitsOp .and .i64 kind_ 15) 7) == 1)] <| Rk ?_
  cases hb_5 : (((Int.tmod (bitsOp .and .i64 kind_ 15) 7) == 1) : Bool) with
  | true =>
   replace h := ite_t hb_5 h
   refine Ct <| Sq <| Ro <| Rc 4 [vp [7] 0 1, ⟨.ref [26] 0 0 (List.map (D.int .i64) ([(IntKind.wrap .i64 ((z_1.length : Int) - 4)), (IntKind.wrap .i64 ((z_1.length : Int) - 2))] : List Int)).length 1, []⟩, vi (z_1.length : Int), vi (IntKind.wrap .i64 ((z_1.length : Int) - 3))] ?_
   obtain ⟨z_3, hz_3, h⟩ := bind_s h
   refine Rt (some 44) (.iaddrS 1) [] none [.ref [26] 0 0 (List.map (D.int .i64) ([(IntKind.wrap .i64 ((z_1.length : Int) - 4)), (IntKind.wrap .i64 ((z_1.length : Int) - 2))] : List Int)).length 1, .i 1] (.eref [26] 0 (0 + ((1 : Int)).toNat) 0) [] (cut_atR (e := (D.int .i64)) (l := ([(IntKind.wrap .i64 ((z_1.length : Int) - 4)), (IntKind.wrap .i64 ((z_1.length : Int) - 2))] : List Int)) hz_3 rfl) <| Rt none (.store 1) [] none [.eref [26] 0 (0 + ((1 : Int)).toNat) 0, .i (IntKind.wrap .i64 ((z_1.length : Int) - 3))] (.tup []) [([26], some (.arr (List.map (D.int .i64) (List.set ([(IntKind.wrap .i64 ((z_1.length : Int) - 4)), (IntKind.wrap .i64 ((z_1.length : Int) - 2))] : List Int) ((1 : Int)).toNat (IntKind.wrap .i64 ((z_1.length : Int) - 3)))) 0 false))] (cut_setR (e := (D.int .i64)) (l := ([(IntKind.wrap .i64 ((z_1.length : Int) - 4)), (IntKind.wrap .i64 ((z_1.length : Int) - 2))] : List Int)) (y := z_3) (y' := (IntKind.wrap .i64 ((z_1.length : Int) - 3))) (ds := [.int .i64 (IntKind.wrap .i64 ((z_1.length : Int) - 3))]) (by kernel_rfl) hz_3 (by kernel_rfl) (by kernel_rfl) (by kernel_rfl) (by kernel_rfl)) <| Rk <| Ro <| Rc 1 [vi 1] <| Rd <| kB_nrm <| kS_nrm <| Runs.canon (hansomlaw44_MzMay_h57 ({ r_1 with Bytes := z_1, Relocs := (List.set ([(IntKind.wrap .i64 ((z_1.length : Int) - 4)), (IntKind.wrap .i64 ((z_1.length : Int) - 2))] : List Int) ((1 : Int)).toNat (IntKind.wrap .i64 ((z_1.length : Int) - 3))) } : Image) 1 0 1) (Canon.len (f := fun n => hansomlaw44_MzMay_h57n ({ r_1 with Bytes := z_1, Relocs := (List.set ([(IntKind.wrap .i64 ((z_1.length : Int) - 4)), (IntKind.wrap .i64 ((z_1.length : Int) - 2))] : List Int) ((1 : Int)).toNat (IntKind.wrap .i64 ((z_1.length : Int) - 3))) } : Image) 1 0 1 n) ((by simp only [List.length_map, List.length_set, cpy_length] : (List.map (D.int .i64) ([(IntKind.wrap .i64 ((z_1.length : Int) - 4)), (IntKind.wrap .i64 ((z_1.length : Int) - 2))] : List Int)).length = (List.map (D.int .i64) (List.set ([(IntKind.wrap .i64 ((z_1.length : Int) - 4)), (IntKind.wrap .i64 ((z_1.length : Int) - 2))] : List Int) ((1 : Int)).toNat (IntKind.wrap .i64 ((z_1.length : Int) - 3)))).length)).symm Cz) ?_
   exact hansomlaw44_MzMay_j57_ok x_ kind_ n_ ({ r_1 with Bytes := z_1, Relocs := (List.set ([(IntKind.wrap .i64 ((z_1.length : Int) - 4)), (IntKind.wrap .i64 ((z_1.length : Int) - 2))] : List Int) ((1 : Int)).toNat (IntKind.wrap .i64 ((z_1.length : Int) - 3))) } : Image) 1 0 1 r h
  | false =>
   replace h := ite_f hb_5 h
   refine Cf <| Sq <| Ro <| Rc 2 [vb ((Int.tmod (bitsOp .and .i64 kind_ 15) 7) == 2), vb ((Int.tmod (bitsOp .and .i64 kind_ 15) 7) == 2)] <| Rk ?_
   cases hb_6 : (((Int.tmod (bitsOp .and .i64 kind_ 15) 7) == 2) : Bool) with
   | true =>
    replace h := ite_t hb_6 h
    refine Ct <| Sq <| Ro <| Rc 5 [vp [7] 0 1, ⟨.ref [26] 0 0 (List.map (D.int .i64) ([(IntKind.wrap .i64 ((z_1.length : Int) - 4)), (IntKind.wrap .i64 ((z_1.length : Int) - 2))] : List Int)).length 1, []⟩, vi n_, vi (bitsOp .and .i64 n_ 255), vi (IntKind.wrap .i64 ((-1) - (bitsOp .and .i64 n_ 255)))] ?_
    obtain ⟨z_4, hz_4, h⟩ := bind_s h
    refine Rt (some 52) (.iaddrS 1) [] none [.ref [26] 0 0 (List.map (D.int .i64) ([(IntKind.wrap .i64 ((z_1.length : Int) - 4)), (IntKind.wrap .i64 ((z_1.length : Int) - 2))] : List Int)).length 1, .i 0] (.eref [26] 0 (0 + ((0 : Int)).toNat) 0) [] (cut_atR (e := (D.int .i64)) (l := ([(IntKind.wrap .i64 ((z_1.length : Int) - 4)), (IntKind.wrap .i64 ((z_1.length : Int) - 2))] : List Int)) hz_4 rfl) <| Rt none (.store 1) [] none [.eref [26] 0 (0 + ((0 : Int)).toNat) 0, .i (IntKind.wrap .i64 ((-1) - (bitsOp .and .i64 n_ 255)))] (.tup []) [([26], some (.arr (List.map (D.int .i64) (List.set ([(IntKind.wrap .i64 ((z_1.length : Int) - 4)), (IntKind.wrap .i64 ((z_1.length : Int) - 2))] : List Int) ((0 : Int)).toNat (IntKind.wrap .i64 ((-1) - (bitsOp .and .i64 n_ 255))))) 0 false))] (cut_setR (e := (D.int .i64)) (l := ([(IntKind.wrap .i64 ((z_1.length : Int) - 4)), (IntKind.wrap .i64 ((z_1.length : Int) - 2))] : List Int)) (y := z_4) (y' := (IntKind.wrap .i64 ((-1) - (bitsOp .and .i64 n_ 255)))) (ds := [.int .i64 (IntKind.wrap .i64 ((-1) - (bitsOp .and .i64 n_ 255)))]) (by kernel_rfl) hz_4 (by kernel_rfl) (by kernel_rfl) (by kernel_rfl) (by kernel_rfl)) <| Rk <| Ro <| Rc 1 [vi 1] <| Rd <| kB_nrm <| kS_nrm <| Runs.canon (hansomlaw44_MzMay_h57 ({ r_1 with Bytes := z_1, Relocs := (List.set ([(IntKind.wrap .i64 ((z_1.length : Int) - 4)), (IntKind.wrap .i64 ((z_1.length : Int) - 2))] : List Int) ((0 : Int)).toNat (IntKind.wrap .i64 ((-1) - (bitsOp .and .i64 n_ 255)))) } : Image) 1 0 1) (Canon.len (f := fun n => hansomlaw44_MzMay_h57n ({ r_1 with Bytes := z_1, Relocs := (List.set ([(IntKind.wrap .i64 ((z_1.length : Int) - 4)), (IntKind.wrap .i64 ((z_1.length : Int) - 2))] : List Int) ((0 : Int)).toNat (IntKind.wrap .i64 ((-1) - (bitsOp .and .i64 n_ 255)))) } : Image) 1 0 1 n) ((by simp only [List.length_map, List.length_set, cpy_length] : (List.map (D.int .i64) ([(IntKind.wrap .i64 ((z_1.length : Int) - 4)), (IntKind.wrap .i64 ((z_1.length : Int) - 2))] : List Int)).length = (List.map (D.int .i64) (List.set ([(IntKind.wrap .i64 ((z_1.length : Int) - 4)), (IntKind.wrap .i64 ((z_1.length : Int) - 2))] : List Int) ((0 : Int)).toNat (IntKind.wrap .i64 ((-1) - (bitsOp .and .i64 n_ 255))))).length)).symm Cz) ?_
    exact hansomlaw44_MzMay_j57_ok x_ kind_ n_ ({ r_1 with Bytes := z_1, Relocs := (List.set ([(IntKind.wrap .i64 ((z_1.length : Int) - 4)), (IntKind.wrap .i64 ((z_1.length : Int) - 2))] : List Int) ((0 : Int)).toNat (IntKind.wrap .i64 ((-1) - (bitsOp .and .i64 n_ 255)))) } : Image) 1 0 1 r h
   | false =>
    replace h := ite_f hb_6 h
    refine Cf <| Sq <| Ro <| Rc 2 [vb ((Int.tmod (bitsOp .and .i64 kind_ 15) 7) == 3), vb ((Int.tmod (bitsOp .and .i64 kind_ 15) 7) == 3)] <| Rk ?_
    cases hb_7 : (((Int.tmod (bitsOp .and .i64 kind_ 15) 7) == 3) : Bool) with
    | true =>
     replace h := ite_t hb_7 h
     refine Ct <| Sq <| Ro <| Rc 8 [vp [7] 0 1, ⟨.ref [26] 0 0 (List.map (D.int .i64) ([(IntKind.wrap .i64 ((z_1.length : Int) - 4)), (IntKind.wrap .i64 ((z_1.length : Int) - 2))] : List Int)).length 1, []⟩, vp [7] 0 1, ⟨.ref [26] 0 0 (List.map (D.int .i64) ([(IntKind.wrap .i64 ((z_1.length : Int) - 4)), (IntKind.wrap .i64 ((z_1.length : Int) - 2))] : List Int)).length 1, []⟩, vi (z_1.length : Int), vi (IntKind.wrap .i64 ((z_1.length : Int) - 2)), vi (z_1.length : Int), vi (IntKind.wrap .i64 ((z_1.length : Int) - 4))] ?_
     obtain ⟨z_5, hz_5, h⟩ := bind_s h
     refine Rt (some 63) (.iaddrS 1) [] none [.ref [26] 0 0 (List.map (D.int .i64) ([(IntKind.wrap .i64 ((z_1.length : Int) - 4)), (IntKind.wrap .i64 ((z_1.length : Int) - 2))] : List Int)).length 1, .i 0] (.eref [26] 0 (0 + ((0 : Int)).toNat) 0) [] (cut_atR (e := (D.int .i64)) (l := ([(IntKind.wrap .i64 ((z_1.length : Int) - 4)), (IntKind.wrap .i64 ((z_1.length : Int) - 2))] : List Int)) hz_5 rfl) <| Rt none (.store 1) [] (some [[0, 7], [0, 13], [1, 7], [1, 13], [17], [26]]) [.eref [26] 0 (0 + ((0 : Int)).toNat) 0, .i (IntKind.wrap .i64 ((z_1.length : Int) - 2))] (.tup []) [([26], some (.arr (List.map (D.int .i64) (List.set ([(IntKind.wrap .i64 ((z_1.length : Int) - 4)), (IntKind.wrap .i64 ((z_1.length : Int) - 2))] : List Int) ((0 : Int)).toNat (IntKind.wrap .i64 ((z_1.length : Int) - 2)))) 0 false))] (cut_setR (e := (D.int .i64)) (l := ([(IntKind.wrap .i64 ((z_1.length : Int) - 4)), (IntKind.wrap .i64 ((z_1.length : Int) - 2))] : List Int)) (y := z_5) (y' := (IntKind.wrap .i64 ((z_1.length : Int) - 2))) (ds := [.int .i64 (IntKind.wrap .i64 ((z_1.length : Int) - 2))]) (by kernel_rfl) hz_5 (by kernel_rfl) (by kernel_rfl) (by kernel_rfl) (by kernel_rfl)) ?_
     obtain ⟨z_6, hz_6, h⟩ := bind_s h
     refine Rt (some 64) (.iaddrS 1) [] none [.ref [26] 0 0 (List.map (D.int .i64) ([(IntKind.wrap .i64 ((z_1.length : Int) - 4)), (IntKind.wrap .i64 ((z_1.length : Int) - 2))] : List Int)).length 1, .i 1] (.eref [26] 0 (0 + ((1 : Int)).toNat) 0) [] (cut_atR (e := (D.int .i64)) (l := (List.set ([(IntKind.wrap .i64 ((z_1.length : Int) - 4)), (IntKind.wrap .i64 ((z_1.length : Int) - 2))] : List Int) ((0 : Int)).toNat (IntKind.wrap .i64 ((z_1.length : Int) - 2)))) hz_6 (by simp only [List.length_map, List.length_set, cpy_length] : (List.map (D.int .i64) ([(IntKind.wrap .i64 ((z_1.length : Int) - 4)), (IntKind.wrap .i64 ((z_1.length : Int) - 2))] : List Int)).length = (List.map (D.int .i64) (List.set ([(IntKind.wrap .i64 ((z_1.length : Int) - 4)), (IntKind.wrap .i64 ((z_1.length : Int) - 2))] : List Int) ((0 : Int)).toNat (IntKind.wrap .i64 ((z_1.length : Int) - 2)))).length)) <| Rt none (.store 1) [] none [.eref [26] 0 (0 + ((1 : Int)).toNat) 0, .i (IntKind.wrap .i64 ((z_1.length : Int) - 4))] (.tup []) [([26], some (.arr (List.map (D.int .i64) (List.set (List.set ([(IntKind.wrap .i64 ((z_1.length : Int) - 4)), (IntKind.wrap .i64 ((z_1.length : Int) - 2))] : List Int) ((0 : Int)).toNat (IntKind.wrap .i64 ((z_1.length : Int) - 2))) ((1 : Int)).toNat (IntKind.wrap .i64 ((z_1.length : Int) - 4)))) 0 false))] (cut_setR (e := (D.int .i64)) (l := (List.set ([(IntKind.wrap .i64 ((z_1.length : Int) - 4)), (IntKind.wrap .i64 ((z_1.length : Int) - 2))] : List Int) ((0 : Int)).toNat (IntKind.wrap .i64 ((z_1.length : Int) - 2)))) (y := z_6) (y' := (IntKind.wrap .i64 ((z_1.length : Int) - 4))) (ds := [.int .i64 (IntKind.wrap .i64 ((z_1.length : Int) - 4))]) (by kernel_rfl) hz_6 (by kernel_rfl) (by kernel_rfl) (by kernel_rfl) (by kernel_rfl)) ?_
     refine Rk <| Ro <| Rc 1 [vi 1] <| Rd <| kB_nrm <| kS_nrm <| Runs.canon (hansomlaw44_MzMay_h57 ({ r_1 with Bytes := z_1, Relocs := (List.set (List.set ([(IntKind.wrap .i64 ((z_1.length : Int) - 4)), (IntKind.wrap .i64 ((z_1.length : Int) - 2))] : List Int) ((0 : Int)).toNat (IntKind.wrap .i64 ((z_1.length : Int) - 2))) ((1 : Int)).toNat (IntKind.wrap .i64 ((z_1.length : Int) - 4))) } : Image) 1 0 1) (Canon.len (f := fun n => hansomlaw44_MzMay_h57n ({ r_1 with Bytes := z_1, Relocs := (List.set (List.set ([(IntKind.wrap .i64 ((z_1.length : Int) - 4)), (IntKind.wrap .i64 ((z_1.length : Int) - 2))] : List Int) ((0 : Int)).toNat (IntKind.wrap .i64 ((z_1.length : Int) - 2))) ((1 : Int)).toNat (IntKind.wrap .i64 ((z_1.length : Int) - 4))) } : Image) 1 0 1 n) ((by simp only [List.length_map, List.length_set, cpy_length] : (List.map (D.int .i64) ([(IntKind.wrap .i64 ((z_1.length : Int) - 4)), (IntKind.wrap .i64 ((z_1.length : Int) - 2))] : List Int)).length = (List.map (D.int .i64) (List.set (List.set ([(IntKind.wrap .i64 ((z_1.length : Int) - 4)), (IntKind.wrap .i64 ((z_1.length : Int) - 2))] : List Int) ((0 : Int)).toNat (IntKind.wrap .i64 ((z_1.length : Int) - 2))) ((1 : Int)).toNat (IntKind.wrap .i64 ((z_1.length : Int) - 4)))).length)).symm Cz) ?_
     exact hansomlaw44_MzMay_j57_ok x_ kind_ n_ ({ r_1 with Bytes := z_1, Relocs := (List.set (List.set ([(IntKind.wrap .i64 ((z_1.length : Int) - 4)), (IntKind.wrap .i64 ((z_1.length : Int) - 2))] : List Int) ((0 : Int)).toNat (IntKind.wrap .i64 ((z_1.length : Int) - 2))) ((1 : Int)).toNat (IntKind.wrap .i64 ((z_1.length : Int) - 4))) } : Image) 1 0 1 r h
    | false =>
     replace h := ite_f hb_7 h
     refine Cf <| Sq <| Ro <| Rc 2 [vb ((Int.tmod (bitsOp .and .i64 kind_ 15) 7) == 4), vb ((Int.tmod (bitsOp .and .i64 kind_ 15) 7) == 4)] <| Rk ?_
     cases hb_8 : (((Int.tmod (bitsOp .and .i64 kind_ 15) 7) == 4) : Bool) with
     | true =>
      replace h := ite_t hb_8 h
      refine Ct <| Sq <| Ro <| Rc 5 [vi n_, vi (bitsOp .and .i64 n_ 255), vi (IntKind.wrap .i64 ((-1) - (bitsOp .and .i64 n_ 255))), vp [7] 0 6, ⟨.tup [], [([7], some (.cells [.ref [0, 13] 1 0 (mY z_1).length 1, .ref [26] 0 0 (List.map (D.int .i64) ([(IntKind.wrap .i64 ((z_1.length : Int) - 4)), (IntKind.wrap .i64 ((z_1.length : Int) - 2))] : List Int)).length 1, .w r_1.CS, .w r_1.IP, .w r_1.SS, .w r_1.SP, .i (IntKind.wrap .i64 ((-1) - (bitsOp .and .i64 n_ 255)))] 0))]⟩] <| Rk <| Ro <| Rc 1 [vi 1] <| Rd <| kB_nrm <| kS_nrm <| Runs.canon (hansomlaw44_MzMay_h57 ({ r_1 with Bytes := z_1, Relocs := ([(IntKind.wrap .i64 ((z_1.length : Int) - 4)), (IntKind.wrap .i64 ((z_1.length : Int) - 2))] : List Int), Min := (IntKind.wrap .i64 ((-1) - (bitsOp .and .i64 n_ 255))) } : Image) 1 0 1) Cz ?_
      exact hansomlaw44_MzMay_j57_ok x_ kind_ n_ ({ r_1 with Bytes := z_1, Relocs := ([(IntKind.wrap .i64 ((z_1.length : Int) - 4)), (IntKind.wrap .i64 ((z_1.length : Int) - 2))] : List Int), Min := (IntKind.wrap .i64 ((-1) - (bitsOp .and .i64 n_ 255))) } : Image) 1 0 1 r h
     | false =>
      replace h := ite_f hb_8 h
      refine Cf <| Sq <| Ro <| Rc 2 [vb ((Int.tmod (bitsOp .and .i64 kind_ 15) 7) == 5), vb ((Int.tmod (bitsOp .and .i64 kind_ 15) 7) == 5)] <| Rk ?_
      cases hb_9 : (((Int.tmod (bitsOp .and .i64 kind_ 15) 7) == 5) : Bool) with
      | true =>
       replace h := ite_t hb_9 h
       refine Ct <| Sq <| Ro <| Rc 9 [vi (z_1.length : Int), vi (IntKind.wrap .i64 ((z_1.length : Int) + 15)), vi (IntKind.wrap .i64 (Int.tdiv (IntKind.wrap .i64 ((z_1.length : Int) + 15)) 16)), vi (IntKind.wrap .i64 (40960 - (IntKind.wrap .i64 (Int.tdiv (IntKind.wrap .i64 ((z_1.length : Int) + 15)) 16)))), vi n_, vi (bitsOp .and .i64 n_ 1), vi (IntKind.wrap .i64 ((IntKind.wrap .i64 (40960 - (IntKind.wrap .i64 (Int.tdiv (IntKind.wrap .i64 ((z_1.length : Int) + 15)) 16)))) + (bitsOp .and .i64 n_ 1))), vp [7] 0 6, ⟨.tup [], [([7], some (.cells [.ref [0, 13] 1 0 (mY z_1).length 1, .ref [26] 0 0 (List.map (D.int .i64) ([(IntKind.wrap .i64 ((z_1.length : Int) - 4)), (IntKind.wrap .i64 ((z_1.length : Int) - 2))] : List Int)).length 1, .w r_1.CS, .w r_1.IP, .w r_1.SS, .w r_1.SP, .i (IntKind.wrap .i64 ((IntKind.wrap .i64 (40960 - (IntKind.wrap .i64 (Int.tdiv (IntKind.wrap .i64 ((z_1.length : Int) + 15)) 16)))) + (bitsOp .and .i64 n_ 1)))] 0))]⟩] <| Rk <| Sq <| Ro <| Rc 3 [vi n_, vi (bitsOp .and .i64 n_ 1), vb ((bitsOp .and .i64 n_ 1) == 1)] <| Rk ?_
       cases hb_10 : (((bitsOp .and .i64 n_ 1) == 1) : Bool) with
       | true =>
        replace h := ite_t hb_10 h
        refine Ct <| Ro <| Rc 1 [vi 1] <| Rd <| kB_nrm <| kS_nrm <| Runs.canon (hansomlaw44_MzMay_h57 ({ r_1 with Bytes := z_1, Relocs := ([(IntKind.wrap .i64 ((z_1.length : Int) - 4)), (IntKind.wrap .i64 ((z_1.length : Int) - 2))] : List Int), Min := (IntKind.wrap .i64 ((IntKind.wrap .i64 (40960 - (IntKind.wrap .i64 (Int.tdiv (IntKind.wrap .i64 ((z_1.length : Int) + 15)) 16)))) + (bitsOp .and .i64 n_ 1))) } : Image) 1 0 1) Cz ?_
        exact hansomlaw44_MzMay_j57_ok x_ kind_ n_ ({ r_1 with Bytes := z_1, Relocs := ([(IntKind.wrap .i64 ((z_1.length : Int) - 4)), (IntKind.wrap .i64 ((z_1.length : Int) - 2))] : List Int), Min := (IntKind.wrap .i64 ((IntKind.wrap .i64 (40960 - (IntKind.wrap .i64 (Int.tdiv (IntKind.wrap .i64 ((z_1.length : Int) + 15)) 16)))) + (bitsOp .and .i64 n_ 1))) } : Image) 1 0 1 r h
       | false =>
        replace h := ite_f hb_10 h
        refine Cf <| Runs.skip <| kB_nrm <| kS_nrm <| Runs.canon (hansomlaw44_MzMay_h57 ({ r_1 with Bytes := z_1, Relocs := ([(IntKind.wrap .i64 ((z_1.length : Int) - 4)), (IntKind.wrap .i64 ((z_1.length : Int) - 2))] : List Int), Min := (IntKind.wrap .i64 ((IntKind.wrap .i64 (40960 - (IntKind.wrap .i64 (Int.tdiv (IntKind.wrap .i64 ((z_1.length : Int) + 15)) 16)))) + (bitsOp .and .i64 n_ 1))) } : Image) 0 0 1) Cz ?_
        exact hansomlaw44_MzMay_j57_ok x_ kind_ n_ ({ r_1 with Bytes := z_1, Relocs := ([(IntKind.wrap .i64 ((z_1.length : Int) - 4)), (IntKind.wrap .i64 ((z_1.length : Int) - 2))] : List Int), Min := (IntKind.wrap .i64 ((IntKind.wrap .i64 (40960 - (IntKind.wrap .i64 (Int.tdiv (IntKind.wrap .i64 ((z_1.length : Int) + 15)) 16)))) + (bitsOp .and .i64 n_ 1))) } : Image) 0 0 1 r h
      | false =>
       replace h := ite_f hb_9 h
       refine Cf <| Runs.skip <| kB_nrm <| kS_nrm <| Runs.canon (hansomlaw44_MzMay_h57 ({ r_1 with Bytes := z_1, Relocs := ([(IntKind.wrap .i64 ((z_1.length : Int) - 4)), (IntKind.wrap .i64 ((z_1.length : Int) - 2))] : List Int) } : Image) 0 0 1) Cz ?_
       exact hansomlaw44_MzMay_j57_ok x_ kind_ n_ ({ r_1 with Bytes := z_1, Relocs := ([(IntKind.wrap .i64 ((z_1.length : Int) - 4)), (IntKind.wrap .i64 ((z_1.length : Int) - 2))] : List Int) } : Image) 0 0 1 r h
theorem hansomlaw44_MzMay_L (x_ : Image) (kind_ : Int) (n_ : Int) (r : Bool) (h : hansomlaw44_MzMay x_ kind_ n_ = some r) : L 7 [.d (Image.d x_), .i kind_, .i n_] = some (.b r, [.d (Image.d x_), .i kind_, .i n_]) := by
 obtain ⟨p, ⟨hne, hf⟩, hr⟩ := hansomlaw44_MzMay_ok x_ kind_ n_ r h
 obtain ⟨k, hk⟩ := run_of (F := F7) (args := [.d (Image.d x_), .i kind_, .i n_]) (ap := [.d (Image.d x_), .i kind_, .i n_]) (bx0 := updW (fun _ => none) []) rfl rfl (by kernel_rfl) ⟨p, ⟨hne, hf⟩, hr⟩
 exact lim_run (k := k) rfl hk
end Go.Es.Mzm
