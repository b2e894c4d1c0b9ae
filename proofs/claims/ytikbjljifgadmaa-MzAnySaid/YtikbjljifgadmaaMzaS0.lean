/- The interpreter answers as plain Lean does: part 1. No condition. -/
import Derived.Test.YtikbjljifgadmaaMzaF
import Derived.Test.YtikbjljifgadmaaMzaP
import Derived.KernelRfl
set_option linter.unusedVariables false
set_option linter.unusedSimpArgs false
set_option maxRecDepth 100000
set_option maxHeartbeats 4000000
namespace Go.Es.Mza
theorem hansomlaw44_awake_L (r : Bool) (h : hansomlaw44_awake = some r) : L 33 [] = some (.d (.bool r), []) := by
  cases h
  exact (lim_iff (F := tab1)).2 ⟨100, by kernel_rfl⟩
def hansomref44_Near_h2 (x1 : Image) (b_901_2 : (List Int)) (y2_2 : Int) (y2_3 : Int) (y2_4 : Int) (y2_5 : Int) (y2_6 : Int) (v_901_2 : Nat) : St := ⟨tab [(1, .ptr [1] 0 0), (2, .ptr [2] 0 0)], tabB [([1], some (.cells [.d (.sl (mY x1.Bytes)), .d (.sl (List.map (D.int .i64) x1.Relocs)), .w x1.CS, .w x1.IP, .w x1.SS, .w x1.SP, .i x1.Min] 0)), ([2], some (.cells [.nils, .ref [901, 2] v_901_2 0 (List.map (D.int .i64) b_901_2).length 1, .w y2_2, .w y2_3, .w y2_4, .w y2_5, .i y2_6] 0)), ([901, 2], some (.arr (List.map (D.int .i64) b_901_2) v_901_2 false))]⟩
def hansomref44_Near_h8 (x1 : Image) (y2 : Image) (v_6 : Nat) (v_901_2 : Nat) : St := ⟨tab [(1, .ptr [1] 0 0), (2, .ptr [2] 0 0)], tabB [([1], some (.cells [.d (.sl (mY x1.Bytes)), .d (.sl (List.map (D.int .i64) x1.Relocs)), .w x1.CS, .w x1.IP, .w x1.SS, .w x1.SP, .i x1.Min] 0)), ([2], some (.cells [.ref [6] v_6 0 (mY y2.Bytes).length 1, .ref [901, 2] v_901_2 0 (List.map (D.int .i64) y2.Relocs).length 1, .w y2.CS, .w y2.IP, .w y2.SS, .w y2.SP, .i y2.Min] 0)), ([6], some (.arr (mY y2.Bytes) v_6 false)), ([901, 2], some (.arr (List.map (D.int .i64) y2.Relocs) v_901_2 false))]⟩
def hansomref44_Near_h14 (x1 : Image) (y2 : Image) (at3 : Int) (i4 : Int) (v_6 : Nat) (v_901_2 : Nat) : St := ⟨tab [(1, .ptr [1] 0 0), (2, .ptr [2] 0 0), (3, .i at3), (4, .i i4)], tabB [([1], some (.cells [.d (.sl (mY x1.Bytes)), .d (.sl (List.map (D.int .i64) x1.Relocs)), .w x1.CS, .w x1.IP, .w x1.SS, .w x1.SP, .i x1.Min] 0)), ([2], some (.cells [.ref [6] v_6 0 (mY y2.Bytes).length 1, .ref [901, 2] v_901_2 0 (List.map (D.int .i64) y2.Relocs).length 1, .w y2.CS, .w y2.IP, .w y2.SS, .w y2.SP, .i y2.Min] 0)), ([6], some (.arr (mY y2.Bytes) v_6 false)), ([901, 2], some (.arr (List.map (D.int .i64) y2.Relocs) v_901_2 false))]⟩
def hansomref44_Near_h35 (x1 : Image) (y2 : Image) (v_6 : Nat) (v_901_2 : Nat) : St := ⟨tab [(1, .ptr [1] 0 0), (2, .ptr [2] 0 0)], tabB [([1], some (.cells [.d (.sl (mY x1.Bytes)), .d (.sl (List.map (D.int .i64) x1.Relocs)), .w x1.CS, .w x1.IP, .w x1.SS, .w x1.SP, .i x1.Min] 0)), ([2], some (.cells [.ref [6] v_6 0 (mY y2.Bytes).length 1, .ref [901, 2] v_901_2 0 (List.map (D.int .i64) y2.Relocs).length 1, .w y2.CS, .w y2.IP, .w y2.SS, .w y2.SP, .i y2.Min] 0)), ([6], some (.arr (mY y2.Bytes) v_6 false)), ([901, 2], some (.arr (List.map (D.int .i64) y2.Relocs) v_901_2 false))]⟩
def hansomref44_Near_Q (x_ : Image) (r : Image) (p : Out × St) : Prop := (∀ i, p.1 ≠ .exit i) ∧ finF F29 [.d (Image.d x_)] p.2 = some (.d (Image.d r), [.d (Image.d x_)])
def hansomref44_Near_P14 (x_ : Image) (x1 : Image) (e : Image) (p : Out × St) : Prop := p.1 = .exit 0 ∧ ∃ g : (Nat × Nat), Canon [] [1, 2] [[1], [2], [6], [901, 2]] p.2 (hansomref44_Near_h35 x1 e g.1 g.2)
theorem hansomref44_Near_l14_ok (x_ : Image) (x1 : Image) (y2 : Image) (at3 : Int) (i4 : Int) (v_6 : Nat) (v_901_2 : Nat) (r : (Lp (Image × Int × Int) Image)) (h : hansomref44_Near_l14 x1 y2 at3 i4 = some r) : Runs L F29l14 (hansomref44_Near_h14 x1 y2 at3 i4 v_6 v_901_2) (LQ [] [1, 2, 3, 4] [[1], [2], [6], [901, 2]] (fun (x : (Image × Int × Int)) (g : (Nat × Nat)) => hansomref44_Near_h14 x1 x.1 x.2.1 x.2.2 g.1 g.2) (hansomref44_Near_P14 x_ x1) r) := by
 unfold hansomref44_Near_l14 at h
 refine Sq <| Sq <| Ro <| Rc 3 [vi i4, vp [1] 0 1, ⟨.d (.sl (List.map (D.int .i64) x1.Relocs)), []⟩] <| Rt (some 20) .lenL [] none [.d (.sl (List.map (D.int .i64) x1.Relocs))] (.i (x1.Relocs.length : Int)) [] (cut_len _) <| Rc 2 [vb (decide (i4 < (x1.Relocs.length : Int))), vb (decide (i4 < (x1.Relocs.length : Int)))] ?_
 cases hb_1 : ((decide (i4 < (x1.Relocs.length : Int))) : Bool) with
 | true =>
  replace h := ite_t hb_1 h
  refine Rc 3 [vi i4, vb (decide (i4 < 6)), vb (decide (i4 < 6))] <| Rk ?_
  cases hb_2 : ((decide (i4 < 6)) : Bool) with
  | true =>
   replace h := ite_t hb_2 h
   refine Ct <| Runs.skip <| kS_nrm <| Sq <| Runs.block <| Sq <| Ro <| Rc 4 [vi at3, vp [1] 0 1, ⟨.d (.sl (List.map (D.int .i64) x1.Relocs)), []⟩, vi i4] ?_
   obtain ⟨z_3, hz_3, h⟩ := bind_s h
   refine Rt (some 32) (.iaddrS 1) [] none [.d (.sl (List.map (D.int .i64) x1.Relocs)), .i i4] (.elt (.int .i64 z_3) 0) [] (cut_at hz_3 (fun _ => rfl)) <| Rc 4 [vi z_3, vi (bitsOp .and .i64 z_3 63), vi (IntKind.wrap .i64 (at3 + (bitsOp .and .i64 z_3 63))), vi (IntKind.wrap .i64 (at3 + (bitsOp .and .i64 z_3 63)))] <| Rk <| Sq <| Sq <| Ro <| Rc 4 [vi (IntKind.wrap .i64 (at3 + (bitsOp .and .i64 z_3 63))), vi (IntKind.wrap .i64 ((IntKind.wrap .i64 (at3 + (bitsOp .and .i64 z_3 63))) + 2)), vp [2] 0 0, ⟨.ref [6] v_6 0 (mY y2.Bytes).length 1, []⟩] <| Rt (some 40) .lenL [] none [.ref [6] v_6 0 (mY y2.Bytes).length 1] (.i (y2.Bytes.length : Int)) [] (cut_lenR (e := (D.int .u8)) y2.Bytes rfl) <| Rc 1 [vb (decide ((IntKind.wrap .i64 ((IntKind.wrap .i64 (at3 + (bitsOp .and .i64 z_3 63))) + 2)) > (y2.Bytes.length : Int)))] <| Rk ?_
   cases hb_3 : ((decide ((IntKind.wrap .i64 ((IntKind.wrap .i64 (at3 + (bitsOp .and .i64 z_3 63))) + 2)) > (y2.Bytes.length : Int))) : Bool) with
   | true =>
    replace h := ite_t hb_3 h
    refine Ct <| Runs.exit <| kS_exit <| kB_pass (by decide) <| kS_exit ?_
    obtain rfl := sj h
    exact ⟨nofun, rfl, (v_6, v_901_2), Cz⟩
   | false =>
    replace h := ite_f hb_3 h
    refine Cf <| Runs.skip <| kS_nrm <| Sq <| Ro <| Rc 4 [vp [2] 0 1, ⟨.ref [901, 2] v_901_2 0 (List.map (D.int .i64) y2.Relocs).length 1, []⟩, vi (IntKind.wrap .i64 (at3 + (bitsOp .and .i64 z_3 63))), ⟨.ref [45] 0 0 (List.map (D.int .i64) ([(IntKind.wrap .i64 (at3 + (bitsOp .and .i64 z_3 63)))] : List Int)).length 1, [([45], some (.arr (List.map (D.int .i64) ([(IntKind.wrap .i64 (at3 + (bitsOp .and .i64 z_3 63)))] : List Int)) 0 false))]⟩] ?_
    obtain ⟨z_4, hz_4, h⟩ := bind_s h
    refine Rt (some 46) (.append 1 8 false) [] none [.ref [901, 2] v_901_2 0 (List.map (D.int .i64) y2.Relocs).length 1, .ref [45] 0 0 (List.map (D.int .i64) ([(IntKind.wrap .i64 (at3 + (bitsOp .and .i64 z_3 63)))] : List Int)).length 1] (.ref [901, 2] (v_901_2 + 1) 0 (List.map (D.int .i64) z_4).length 1) [([901, 2], some (.arr (List.map (D.int .i64) z_4) (v_901_2 + 1) false))] (cut_appR (e := (D.int .i64)) (l := y2.Relocs) (fz := false) (ws := []) (ap_ref (e := (D.int .i64)) (l := ([(IntKind.wrap .i64 (at3 + (bitsOp .and .i64 z_3 63)))] : List Int)) (fz := false) (by kernel_rfl) (by kernel_rfl) rfl) (fun _ => rfl) hz_4 (by kernel_rfl) (by kernel_rfl) rfl) <| Rc 2 [vp [2] 0 1, ⟨.tup [], [([2], some (.cells [.ref [6] v_6 0 (mY y2.Bytes).length 1, .ref [901, 2] (v_901_2 + 1) 0 (List.map (D.int .i64) z_4).length 1, .w y2.CS, .w y2.IP, .w y2.SS, .w y2.SP, .i y2.Min] 0))]⟩] <| Rk <| Ro <| Rc 3 [vi (IntKind.wrap .i64 (at3 + (bitsOp .and .i64 z_3 63))), vi (IntKind.wrap .i64 ((IntKind.wrap .i64 (at3 + (bitsOp .and .i64 z_3 63))) + 2)), vi (IntKind.wrap .i64 ((IntKind.wrap .i64 (at3 + (bitsOp .and .i64 z_3 63))) + 2))] <| Rd <| kB_nrm <| kS_nrm <| Ro <| Rc 3 [vi i4, vi (IntKind.wrap .i64 (i4 + 1)), vi (IntKind.wrap .i64 (i4 + 1))] <| Rd ?_
    obtain rfl := sj h
    exact ⟨rfl, (v_6, (v_901_2 + 1)), Cz⟩
  | false =>
   replace h := ite_f hb_2 h
   refine Cf <| Runs.exit <| kS_exit ?_
   obtain rfl := sj h
   exact ⟨nofun, rfl, (v_6, v_901_2), Cz⟩
 | false =>
  replace h := ite_f hb_1 h
  refine Rc 3 [vn, vn, vb false] <| Rk <| Cf <| Runs.exit <| kS_exit ?_
  obtain rfl := sj h
  exact ⟨nofun, rfl, (v_6, v_901_2), Cz⟩
theorem hansomref44_Near_ok (x_ : Image) (r : Image) (h : hansomref44_Near x_ = some r) : Runs L F29.body ⟨tmOf [.d (Image.d x_)] 0, updW (fun _ => none) []⟩ (hansomref44_Near_Q x_ r) := by
 unfold hansomref44_Near at h
 refine Sq <| Ro <| Rc 2 [⟨.ptr [1] 0 0, [([1], some (.cells [.d (.sl (mY x_.Bytes)), .d (.sl (List.map (D.int .i64) x_.Relocs)), .w x_.CS, .w x_.IP, .w x_.SS, .w x_.SP, .i x_.Min] 0))]⟩, ⟨.ptr [2] 0 0, [([2], some (.cells [.nils, .nils, .w 0, .w 0, .w 0, .w 0, .i 0] 0))]⟩] <| Rk <| Runs.canon (hansomref44_Near_h2 x_ ([] : List Int) 0 0 0 0 0 0) (Canon.cons (ownB_nil (ver := 0) (v := 0) (cs := [.nils, .nils, .w 0, .w 0, .w 0, .w 0, .i 0]) (cs' := [.nils, .ref [901, 2] 0 0 (List.map (D.int .i64) ([] : List Int)).length 1, .w 0, .w 0, .w 0, .w 0, .i 0]) (D.int .i64) (by kernel_rfl) (by kernel_rfl) (by kernel_rfl) (by decide) (by kernel_rfl)) Cz) <| Sq <| Ro <| Rc 2 [⟨.d (Image.d x_), []⟩, ⟨.tup [], [([2], some (.cells [.d (.sl (mY x_.Bytes)), .d (.sl (List.map (D.int .i64) x_.Relocs)), .w x_.CS, .w x_.IP, .w x_.SS, .w x_.SP, .i x_.Min] 0))]⟩] <| Rk <| Sq <| Ro <| Rc 5 [⟨.ref [6] 0 0 (mY ([] : List Int)).length 1, [([6], some (.arr (mY ([] : List Int)) 0 false))]⟩, vp [1] 0 0, ⟨.d (.sl (mY x_.Bytes)), []⟩, vp [1] 0 0, ⟨.d (.sl (mY x_.Bytes)), []⟩] ?_
 refine Rt (some 11) .lenL [] none [.d (.sl (mY x_.Bytes))] (.i (x_.Bytes.length : Int)) [] (cut_len _) <| Rc 1 [vi (mnI (x_.Bytes.length : Int) 600)] ?_
 obtain ⟨z_1, hz_1, h⟩ := bind_s h
 refine Rt (some 13) (.subsl 1 false true false) [] none [.d (.sl (mY x_.Bytes)), .i (mnI (x_.Bytes.length : Int) 600)] (.d (.sl (mY z_1))) [] (cut_slFT hz_1 (fun _ => rfl)) ?_
 obtain ⟨z_2, hz_2, h⟩ := bind_s h
 refine Rt (some 14) (.append 1 1 false) [] none [.ref [6] 0 0 (mY ([] : List Int)).length 1, .d (.sl (mY z_1))] (.ref [6] 1 0 (mY z_2).length 1) [([6], some (.arr (mY z_2) 1 false))] (cut_appR (e := (D.int .u8)) (l := ([] : List Int)) (fz := false) (ws := []) (ap_data _) (fun _ => rfl) hz_2 (by kernel_rfl) (by kernel_rfl) rfl) <| Rc 2 [vp [2] 0 0, ⟨.tup [], [([2], some (.cells [.ref [6] 1 0 (mY z_2).length 1, .d (.sl (List.map (D.int .i64) x_.Relocs)), .w x_.CS, .w x_.IP, .w x_.SS, .w x_.SP, .i x_.Min] 0))]⟩] <| Rk <| Sq <| Ro <| Rc 2 [vp [2] 0 1, ⟨.tup [], [([2], some (.cells [.ref [6] 1 0 (mY z_2).length 1, .nils, .w x_.CS, .w x_.IP, .w x_.SS, .w x_.SP, .i x_.Min] 0))]⟩] <| Rk <| Runs.canon (hansomref44_Near_h8 x_ ({ x_ with Bytes := z_2, Relocs := ([] : List Int) } : Image) 1 1) (Canon.cons (ownB_nil (ver := 0) (v := 1) (cs := [.ref [6] 1 0 (mY z_2).length 1, .nils, .w x_.CS, .w x_.IP, .w x_.SS, .w x_.SP, .i x_.Min]) (cs' := [.ref [6] 1 0 (mY z_2).length 1, .ref [901, 2] 1 0 (List.map (D.int .i64) ([] : List Int)).length 1, .w x_.CS, .w x_.IP, .w x_.SS, .w x_.SP, .i x_.Min]) (D.int .i64) (by kernel_rfl) (by kernel_rfl) (by kernel_rfl) (by decide) (by kernel_rfl)) Cz) ?_
 refine Sq <| Ro <| Rc 1 [vi 0] <| Rk <| Sq <| Sq <| Ro <| Rc 1 [vi 0] <| Rk <| Runs.block ?_
 obtain ⟨e_1, he_1, h⟩ := bind_s h
 refine Runs.loop (fun x : (Image × Int × Int) => hansomref44_Near_l14 x_ x.1 x.2.1 x.2.2) (fun (x : (Image × Int × Int)) (g : (Nat × Nat)) => hansomref44_Near_h14 x_ x.1 x.2.1 x.2.2 g.1 g.2) (hansomref44_Near_P14 x_ x_) (fun x g r hr => hansomref44_Near_l14_ok x_ x_ x.1 x.2.1 x.2.2 g.1 g.2 r hr) (1, 1) he_1 Cz ?_
 rintro ⟨o, s⟩ hp
 obtain ⟨ho, g_1, hk_1⟩ := hp
 have ho' : o = .exit 0 := ho
 subst ho'
 refine kB_hit <| kS_nrm <| Runs.canon _ hk_1 <| Sq <| Ro <| Rc 5 [vp [1] 0 6, vi x_.Min, vi (bitsOp .and .i64 x_.Min 255), vp [2] 0 6, ⟨.tup [], [([2], some (.cells [.ref [6] g_1.1 0 (mY e_1.Bytes).length 1, .ref [901, 2] g_1.2 0 (List.map (D.int .i64) e_1.Relocs).length 1, .w e_1.CS, .w e_1.IP, .w e_1.SS, .w e_1.SP, .i (bitsOp .and .i64 x_.Min 255)] 0))]⟩] <| Rk <| Sq <| Ro <| Rc 2 [⟨.mix [.ref [6] g_1.1 0 (mY e_1.Bytes).length 1, .ref [901, 2] g_1.2 0 (List.map (D.int .i64) e_1.Relocs).length 1, .w e_1.CS, .w e_1.IP, .w e_1.SS, .w e_1.SP, .i (bitsOp .and .i64 x_.Min 255)], []⟩, ⟨.tup [], [([2], some (.cells [.ref [6] g_1.1 0 (mY e_1.Bytes).length 1, .ref [901, 2] g_1.2 0 (List.map (D.int .i64) e_1.Relocs).length 1, .w e_1.CS, .w e_1.IP, .w e_1.SS, .w e_1.SP, .i (bitsOp .and .i64 x_.Min 255)] 0))]⟩] <| Rk <| Sq <| Runs.gcons (frzB_ref (e := (D.int .u8)) (l := e_1.Bytes) (id := [2]) (id' := [6]) (v := g_1.1) (n := 1) (fz := false) (ver := 0) (cs := [.ref [6] g_1.1 0 (mY e_1.Bytes).length 1, .ref [901, 2] g_1.2 0 (List.map (D.int .i64) e_1.Relocs).length 1, .w e_1.CS, .w e_1.IP, .w e_1.SS, .w e_1.SP, .i (bitsOp .and .i64 x_.Min 255)]) (cs' := [.d (.sl (mY e_1.Bytes)), .ref [901, 2] g_1.2 0 (List.map (D.int .i64) e_1.Relocs).length 1, .w e_1.CS, .w e_1.IP, .w e_1.SS, .w e_1.SP, .i (bitsOp .and .i64 x_.Min 255)]) (by kernel_rfl) (by kernel_rfl) (by kernel_rfl) (by decide) (by kernel_rfl) rfl) ?_
 refine Runs.gcons (frzB_ref (e := (D.int .i64)) (l := e_1.Relocs) (id := [2]) (id' := [901, 2]) (v := g_1.2) (n := 1) (fz := false) (ver := 0) (cs := [.d (.sl (mY e_1.Bytes)), .ref [901, 2] g_1.2 0 (List.map (D.int .i64) e_1.Relocs).length 1, .w e_1.CS, .w e_1.IP, .w e_1.SS, .w e_1.SP, .i (bitsOp .and .i64 x_.Min 255)]) (cs' := [.d (.sl (mY e_1.Bytes)), .d (.sl (List.map (D.int .i64) e_1.Relocs)), .w e_1.CS, .w e_1.IP, .w e_1.SS, .w e_1.SP, .i (bitsOp .and .i64 x_.Min 255)]) (by kernel_rfl) (by kernel_rfl) (by kernel_rfl) (by decide) (by kernel_rfl) rfl) <| Runs.gnil <| kS_nrm <| Runs.ret ?_
 cases h
 exact Fq
theorem hansomref44_Near_L (x_ : Image) (r : Image) (h : hansomref44_Near x_ = some r) : L 29 [.d (Image.d x_)] = some (.d (Image.d r), [.d (Image.d x_)]) := by
 obtain ⟨p, ⟨hne, hf⟩, hr⟩ := hansomref44_Near_ok x_ r h
 obtain ⟨k, hk⟩ := run_of (F := F29) (args := [.d (Image.d x_)]) (ap := [.d (Image.d x_)]) (bx0 := updW (fun _ => none) []) rfl rfl (by kernel_rfl) ⟨p, ⟨hne, hf⟩, hr⟩
 exact lim_run (k := k) rfl hk
def hansomref18_Bytes_h8 (n0 : Int) (many1 : Int) (s5 : (List UInt8)) (i6 : Int) : St := ⟨tab [(0, .d (.int .u64 n0)), (1, .i many1), (5, .d (.str s5)), (6, .i i6)], tabB []⟩
def hansomref18_Bytes_h21 (s5 : (List UInt8)) : St := ⟨tab [(5, .d (.str s5))], tabB []⟩
def hansomref18_Bytes_Q (n_ : Int) (many_ : Int) (r : (List UInt8)) (p : Out × St) : Prop := (∀ i, p.1 ≠ .exit i) ∧ finF F58 [.d (.int .u64 n_), .i many_] p.2 = some (.d (.str r), [.d (.int .u64 n_), .i many_])
def hansomref18_Bytes_P8 (n_ : Int) (many_ : Int) (many1 : Int) (e : (List UInt8)) (p : Out × St) : Prop := p.1 = .exit 0 ∧ ∃ g : Unit, Canon [] [5] [] p.2 (hansomref18_Bytes_h21 e)
theorem hansomref18_Bytes_l8_ok (n_ : Int) (many_ : Int) (n0 : Int) (many1 : Int) (s5 : (List UInt8)) (i6 : Int) (r : (Lp (Int × (List UInt8) × Int) (List UInt8))) (h : hansomref18_Bytes_l8 n0 many1 s5 i6 = some r) : Runs L F58l8 (hansomref18_Bytes_h8 n0 many1 s5 i6) (LQ [] [0, 1, 5, 6] [] (fun (x : (Int × (List UInt8) × Int)) (g : Unit) => hansomref18_Bytes_h8 x.1 many1 x.2.1 x.2.2) (hansomref18_Bytes_P8 n_ many_ many1) r) := by
 unfold hansomref18_Bytes_l8 at h
 refine Sq <| Sq <| Ro <| Rc 3 [vi i6, vi many1, vb (decide (i6 < many1))] <| Rk ?_
 cases hb_1 : ((decide (i6 < many1)) : Bool) with
 | true =>
  replace h := ite_t hb_1 h
  refine Ct <| Runs.skip <| kS_nrm <| Sq <| Runs.block <| Sq <| Ro <| Rc 5 [⟨.d (.str s5), []⟩, ⟨.d (.int .u64 n0), []⟩, ⟨.d (.int .u64 (Int.tmod n0 256)), []⟩, vy (IntKind.wrap .u8 (Int.tmod n0 256)), ⟨.ref [16] 0 0 (mY ([(IntKind.wrap .u8 (Int.tmod n0 256))] : List Int)).length 1, [([16], some (.arr (mY ([(IntKind.wrap .u8 (Int.tmod n0 256))] : List Int)) 0 false))]⟩] <| Rt (some 17) .bytesStr [] none [.ref [16] 0 0 (mY ([(IntKind.wrap .u8 (Int.tmod n0 256))] : List Int)).length 1] (.d (.str (b2s ([(IntKind.wrap .u8 (Int.tmod n0 256))] : List Int)))) [] (cut_bsR (l := ([(IntKind.wrap .u8 (Int.tmod n0 256))] : List Int)) (fz := false) (by kernel_rfl) (by kernel_rfl) rfl) ?_
  obtain ⟨z_1, hz_1, h⟩ := bind_s h
  refine Rt (some 18) (.bin .add) [] none [.d (.str s5), .d (.str (b2s ([(IntKind.wrap .u8 (Int.tmod n0 256))] : List Int)))] (.d (.str z_1)) [] (cut_cat hz_1) <| Rc 1 [⟨.d (.str z_1), []⟩] <| Rk <| Ro <| Rc 3 [⟨.d (.int .u64 n0), []⟩, ⟨.d (.int .u64 (IntKind.wrap .u64 (Int.tdiv n0 256))), []⟩, ⟨.d (.int .u64 (IntKind.wrap .u64 (Int.tdiv n0 256))), []⟩] <| Rd <| kB_nrm <| kS_nrm <| Ro <| Rc 3 [vi i6, vi (IntKind.wrap .i64 (i6 + 1)), vi (IntKind.wrap .i64 (i6 + 1))] <| Rd ?_
  obtain rfl := sj h
  exact ⟨rfl, (), Cz⟩
 | false =>
  replace h := ite_f hb_1 h
  refine Cf <| Runs.exit <| kS_exit ?_
  obtain rfl := sj h
  exact ⟨nofun, rfl, (), Cz⟩
theorem hansomref18_Bytes_ok (n_ : Int) (many_ : Int) (r : (List UInt8)) (h : hansomref18_Bytes n_ many_ = some r) : Runs L F58.body ⟨tmOf [.d (.int .u64 n_), .i many_] 0, updW (fun _ => none) []⟩ (hansomref18_Bytes_Q n_ many_ r) := by
 unfold hansomref18_Bytes at h
 refine Sq <| Ro <| Rc 1 [⟨.d (.str ([] : List UInt8)), []⟩] <| Rk <| Sq <| Ro <| Rc 1 [⟨.d (.str ([] : List UInt8)), []⟩] <| Rk <| Sq <| Sq <| Ro <| Rc 1 [vi 0] <| Rk <| Runs.block ?_
 obtain ⟨e_1, he_1, h⟩ := bind_s h
 refine Runs.loop (fun x : (Int × (List UInt8) × Int) => hansomref18_Bytes_l8 x.1 many_ x.2.1 x.2.2) (fun (x : (Int × (List UInt8) × Int)) (g : Unit) => hansomref18_Bytes_h8 x.1 many_ x.2.1 x.2.2) (hansomref18_Bytes_P8 n_ many_ many_) (fun x g r hr => hansomref18_Bytes_l8_ok n_ many_ x.1 many_ x.2.1 x.2.2  r hr) () he_1 Cz ?_
 rintro ⟨o, s⟩ hp
 obtain ⟨ho, g_1, hk_1⟩ := hp
 have ho' : o = .exit 0 := ho
 subst ho'
 refine kB_hit <| kS_nrm <| Runs.canon _ hk_1 <| Sq <| Ro <| Rc 2 [⟨.d (.str e_1), []⟩, ⟨.d (.str e_1), []⟩] <| Rk <| Runs.ret ?_
 cases h
 exact Fq
theorem hansomref18_Bytes_L (n_ : Int) (many_ : Int) (r : (List UInt8)) (h : hansomref18_Bytes n_ many_ = some r) : L 58 [.d (.int .u64 n_), .i many_] = some (.d (.str r), [.d (.int .u64 n_), .i many_]) := by
 obtain ⟨p, ⟨hne, hf⟩, hr⟩ := hansomref18_Bytes_ok n_ many_ r h
 obtain ⟨k, hk⟩ := run_of (F := F58) (args := [.d (.int .u64 n_), .i many_]) (ap := [.d (.int .u64 n_), .i many_]) (bx0 := updW (fun _ => none) []) rfl rfl (by kernel_rfl) ⟨p, ⟨hne, hf⟩, hr⟩
 exact lim_run (k := k) rfl hk
def hansomref44_Write_h14 (x1 : Image) (head3 : Int) (s5 : (List UInt8)) (l6 : (List Int)) (i7 : Int) : St := ⟨tab [(1, .ptr [1] 0 0), (3, .i head3), (5, .d (.str s5)), (6, .d (.sl (List.map (D.int .i64) l6))), (7, .i i7)], tabB [([1], some (.cells [.d (.sl (mY x1.Bytes)), .d (.sl (List.map (D.int .i64) x1.Relocs)), .w x1.CS, .w x1.IP, .w x1.SS, .w x1.SP, .i x1.Min] 0))]⟩
def hansomref44_Write_h25 (x1 : Image) (head3 : Int) (s5 : (List UInt8)) : St := ⟨tab [(1, .ptr [1] 0 0), (3, .i head3), (5, .d (.str s5))], tabB [([1], some (.cells [.d (.sl (mY x1.Bytes)), .d (.sl (List.map (D.int .i64) x1.Relocs)), .w x1.CS, .w x1.IP, .w x1.SS, .w x1.SP, .i x1.Min] 0))]⟩
def hansomref44_Write_h29 (x1 : Image) (head3 : Int) (s5 : (List UInt8)) (i8 : Int) : St := ⟨tab [(1, .ptr [1] 0 0), (3, .i head3), (5, .d (.str s5)), (8, .i i8)], tabB [([1], some (.cells [.d (.sl (mY x1.Bytes)), .d (.sl (List.map (D.int .i64) x1.Relocs)), .w x1.CS, .w x1.IP, .w x1.SS, .w x1.SP, .i x1.Min] 0))]⟩
def hansomref44_Write_h40 (x1 : Image) (head3 : Int) (s5 : (List UInt8)) : St := ⟨tab [(1, .ptr [1] 0 0), (3, .i head3), (5, .d (.str s5))], tabB [([1], some (.cells [.d (.sl (mY x1.Bytes)), .d (.sl (List.map (D.int .i64) x1.Relocs)), .w x1.CS, .w x1.IP, .w x1.SS, .w x1.SP, .i x1.Min] 0))]⟩
def hansomref44_Write_h42 (x1 : Image) (head3 : Int) (s5 : (List UInt8)) : St := ⟨tab [(1, .ptr [1] 0 0), (3, .i head3), (5, .d (.str s5))], tabB [([1], some (.cells [.d (.sl (mY x1.Bytes)), .d (.sl (List.map (D.int .i64) x1.Relocs)), .w x1.CS, .w x1.IP, .w x1.SS, .w x1.SP, .i x1.Min] 0))]⟩
def hansomref44_Write_h51 (x1 : Image) (s5 : (List UInt8)) : St := ⟨tab [(1, .ptr [1] 0 0), (5, .d (.str s5))], tabB [([1], some (.cells [.d (.sl (mY x1.Bytes)), .d (.sl (List.map (D.int .i64) x1.Relocs)), .w x1.CS, .w x1.IP, .w x1.SS, .w x1.SP, .i x1.Min] 0))]⟩
def hansomref44_Write_Q (x_ : Image) (r : (List UInt8)) (p : Out × St) : Prop := (∀ i, p.1 ≠ .exit i) ∧ finF F30 [.d (Image.d x_)] p.2 = some (.d (.str r), [.d (Image.d x_)])
def hansomref44_Write_P14 (x_ : Image) (x1 : Image) (head3 : Int) (l6 : (List Int)) (e : (List UInt8)) (p : Out × St) : Prop := p.1 = .exit 0 ∧ ∃ g : Unit, Canon [] [1, 3, 5] [[1]] p.2 (hansomref44_Write_h25 x1 head3 e)
def hansomref44_Write_P29 (x_ : Image) (x1 : Image) (head3 : Int) (e : (List UInt8)) (p : Out × St) : Prop := p.1 = .exit 2 ∧ ∃ g : Unit, Canon [] [1, 3, 5] [[1]] p.2 (hansomref44_Write_h40 x1 head3 e)
def hansomref44_Write_P42 (x_ : Image) (x1 : Image) (head3 : Int) (e : (List UInt8)) (p : Out × St) : Prop := p.1 = .exit 4 ∧ ∃ g : Unit, Canon [] [1, 5] [[1]] p.2 (hansomref44_Write_h51 x1 e)
theorem hansomref44_Write_l14_ok (x_ : Image) (x1 : Image) (head3 : Int) (s5 : (List UInt8)) (l6 : (List Int)) (i7 : Int) (r : (Lp ((List UInt8) × Int) (List UInt8))) (h : hansomref44_Write_l14 x1 head3 s5 l6 i7 = some r) : Runs L F30l14 (hansomref44_Write_h14 x1 head3 s5 l6 i7) (LQ [.frz 6] [1, 3, 5, 6, 7] [[1]] (fun (x : ((List UInt8) × Int)) (g : Unit) => hansomref44_Write_h14 x1 head3 x.1 l6 x.2) (hansomref44_Write_P14 x_ x1 head3 l6) r) := by
 unfold hansomref44_Write_l14 at h
 refine Sq <| Sq <| Ro <| Rc 2 [vi i7, ⟨.d (.sl (List.map (D.int .i64) l6)), []⟩] <| Rt (some 49) .lenL [] none [.d (.sl (List.map (D.int .i64) l6))] (.i (l6.length : Int)) [] (cut_len _) <| Rc 1 [vb (decide (i7 < (l6.length : Int)))] <| Rk ?_
 cases hb_1 : ((decide (i7 < (l6.length : Int))) : Bool) with
 | true =>
  replace h := ite_t hb_1 h
  refine Ct <| Runs.skip <| kS_nrm <| Sq <| Runs.block <| Ro <| Rc 3 [⟨.d (.str s5), []⟩, ⟨.d (.sl (List.map (D.int .i64) l6)), []⟩, vi i7] ?_
  obtain ⟨z_1, hz_1, h⟩ := bind_s h
  refine Rt (some 56) (.iaddrS 1) [] none [.d (.sl (List.map (D.int .i64) l6)), .i i7] (.elt (.int .i64 z_1) 0) [] (cut_at hz_1 (fun _ => rfl)) <| Rc 2 [vi z_1, ⟨.d (.int .u64 (IntKind.wrap .u64 z_1)), []⟩] ?_
  obtain ⟨r_1, hr_1, h⟩ := bind_s h
  have hc_1 := hansomref18_Bytes_L (IntKind.wrap .u64 z_1) 2 r_1 hr_1
  refine Rt (some 59) (.callf 58) [] none [.d (.int .u64 (IntKind.wrap .u64 z_1)), .i 2] (.d (.str r_1)) [] (cc hc_1) ?_
  obtain ⟨z_2, hz_2, h⟩ := bind_s h
  refine Rt (some 60) (.bin .add) [] none [.d (.str s5), .d (.str r_1)] (.d (.str z_2)) [] (cut_cat hz_2) <| Rc 1 [⟨.d (.str z_2), []⟩] <| Rd <| kB_nrm <| kS_nrm <| Ro <| Rc 3 [vi i7, vi (IntKind.wrap .i64 (i7 + 1)), vi (IntKind.wrap .i64 (i7 + 1))] <| Rd ?_
  obtain rfl := sj h
  exact ⟨rfl, (), (Canon.same (by kernel_rfl) Cz)⟩
 | false =>
  replace h := ite_f hb_1 h
  refine Cf <| Runs.exit <| kS_exit ?_
  obtain rfl := sj h
  exact ⟨nofun, rfl, (), Cz⟩
theorem hansomref44_Write_l29_ok (x_ : Image) (x1 : Image) (head3 : Int) (s5 : (List UInt8)) (i8 : Int) (r : (Lp ((List UInt8) × Int) (List UInt8))) (h : hansomref44_Write_l29 x1 head3 s5 i8 = some r) : Runs L F30l29 (hansomref44_Write_h29 x1 head3 s5 i8) (LQ [] [1, 3, 5, 8] [[1]] (fun (x : ((List UInt8) × Int)) (g : Unit) => hansomref44_Write_h29 x1 head3 x.1 x.2) (hansomref44_Write_P29 x_ x1 head3) r) := by
 unfold hansomref44_Write_l29 at h
 refine Sq <| Sq <| Ro <| Rc 3 [vi i8, vp [1] 0 1, ⟨.d (.sl (List.map (D.int .i64) x1.Relocs)), []⟩] <| Rt (some 64) .lenL [] none [.d (.sl (List.map (D.int .i64) x1.Relocs))] (.i (x1.Relocs.length : Int)) [] (cut_len _) <| Rc 1 [vb (decide (i8 < (x1.Relocs.length : Int)))] <| Rk ?_
 cases hb_1 : ((decide (i8 < (x1.Relocs.length : Int))) : Bool) with
 | true =>
  replace h := ite_t hb_1 h
  refine Ct <| Runs.skip <| kS_nrm <| Sq <| Runs.block <| Ro <| Rc 4 [⟨.d (.str s5), []⟩, vp [1] 0 1, ⟨.d (.sl (List.map (D.int .i64) x1.Relocs)), []⟩, vi i8] ?_
  obtain ⟨z_1, hz_1, h⟩ := bind_s h
  refine Rt (some 72) (.iaddrS 1) [] none [.d (.sl (List.map (D.int .i64) x1.Relocs)), .i i8] (.elt (.int .i64 z_1) 0) [] (cut_at hz_1 (fun _ => rfl)) <| Rc 3 [vi z_1, vi (Int.tmod z_1 16), ⟨.d (.int .u64 (IntKind.wrap .u64 (Int.tmod z_1 16))), []⟩] ?_
  obtain ⟨r_1, hr_1, h⟩ := bind_s h
  have hc_1 := hansomref18_Bytes_L (IntKind.wrap .u64 (Int.tmod z_1 16)) 2 r_1 hr_1
  refine Rt (some 76) (.callf 58) [] (some []) [.d (.int .u64 (IntKind.wrap .u64 (Int.tmod z_1 16))), .i 2] (.d (.str r_1)) [] (cc hc_1) <| Rc 3 [vp [1] 0 1, ⟨.d (.sl (List.map (D.int .i64) x1.Relocs)), []⟩, vi i8] ?_
  obtain ⟨z_2, hz_2, h⟩ := bind_s h
  refine Rt (some 80) (.iaddrS 1) [] none [.d (.sl (List.map (D.int .i64) x1.Relocs)), .i i8] (.elt (.int .i64 z_2) 0) [] (cut_at hz_2 (fun _ => rfl)) <| Rc 3 [vi z_2, vi (IntKind.wrap .i64 (Int.tdiv z_2 16)), ⟨.d (.int .u64 (IntKind.wrap .u64 (IntKind.wrap .i64 (Int.tdiv z_2 16)))), []⟩] ?_
  obtain ⟨r_2, hr_2, h⟩ := bind_s h
  have hc_2 := hansomref18_Bytes_L (IntKind.wrap .u64 (IntKind.wrap .i64 (Int.tdiv z_2 16))) 2 r_2 hr_2
  refine Rt (some 84) (.callf 58) [] none [.d (.int .u64 (IntKind.wrap .u64 (IntKind.wrap .i64 (Int.tdiv z_2 16)))), .i 2] (.d (.str r_2)) [] (cc hc_2) ?_
  obtain ⟨z_3, hz_3, h⟩ := bind_s h
  refine Rt (some 85) (.bin .add) [] none [.d (.str r_1), .d (.str r_2)] (.d (.str z_3)) [] (cut_cat hz_3) ?_
  obtain ⟨z_4, hz_4, h⟩ := bind_s h
  refine Rt (some 86) (.bin .add) [] none [.d (.str s5), .d (.str z_3)] (.d (.str z_4)) [] (cut_cat hz_4) <| Rc 1 [⟨.d (.str z_4), []⟩] <| Rd <| kB_nrm <| kS_nrm <| Ro <| Rc 3 [vi i8, vi (IntKind.wrap .i64 (i8 + 1)), vi (IntKind.wrap .i64 (i8 + 1))] <| Rd ?_
  obtain rfl := sj h
  exact ⟨rfl, (), Cz⟩
 | false =>
  replace h := ite_f hb_1 h
  refine Cf <| Runs.exit <| kS_exit ?_
  obtain rfl := sj h
  exact ⟨nofun, rfl, (), Cz⟩
theorem hansomref44_Write_l42_ok (x_ : Image) (x1 : Image) (head3 : Int) (s5 : (List UInt8)) (r : (Lp (List UInt8) (List UInt8))) (h : hansomref44_Write_l42 x1 head3 s5 = some r) : Runs L F30l42 (hansomref44_Write_h42 x1 head3 s5) (LQ [] [1, 3, 5] [[1]] (fun (x : (List UInt8)) (g : Unit) => hansomref44_Write_h42 x1 head3 x) (hansomref44_Write_P42 x_ x1 head3) r) := by
 unfold hansomref44_Write_l42 at h
 refine Sq <| Sq <| Ro <| Rc 1 [⟨.d (.str s5), []⟩] <| Rt (some 88) .lenS [] none [.d (.str s5)] (.i (s5.length : Int)) [] (cut_lenS _) <| Rc 2 [vi head3, vb (decide ((s5.length : Int) < head3))] <| Rk ?_
 cases hb_1 : ((decide ((s5.length : Int) < head3)) : Bool) with
 | true =>
  replace h := ite_t hb_1 h
  refine Ct <| Runs.skip <| kS_nrm <| Runs.block <| Ro <| Rc 1 [⟨.d (.str s5), []⟩] ?_
  obtain ⟨z_1, hz_1, h⟩ := bind_s h
  refine Rt (some 92) (.bin .add) [] none [.d (.str s5), .d (.str ([0] : List UInt8))] (.d (.str z_1)) [] (cut_cat hz_1) <| Rc 1 [⟨.d (.str z_1), []⟩] <| Rd <| kB_nrm ?_
  obtain rfl := sj h
  exact ⟨rfl, (), Cz⟩
 | false =>
  replace h := ite_f hb_1 h
  refine Cf <| Runs.exit <| kS_exit ?_
  obtain rfl := sj h
  exact ⟨nofun, rfl, (), Cz⟩
theorem hansomref44_Write_ok (x_ : Image) (r : (List UInt8)) (h : hansomref44_Write x_ = some r) : Runs L F30.body ⟨tmOf [.d (Image.d x_)] 0, updW (fun _ => none) []⟩ (hansomref44_Write_Q x_ r) := by
 unfold hansomref44_Write at h
 refine Sq <| Ro <| Rc 2 [⟨.ptr [1] 0 0, [([1], some (.cells [.d (.sl (mY x_.Bytes)), .d (.sl (List.map (D.int .i64) x_.Relocs)), .w x_.CS, .w x_.IP, .w x_.SS, .w x_.SP, .i x_.Min] 0))]⟩, ⟨.d (.str ([] : List UInt8)), []⟩] <| Rk <| Sq <| Ro <| Rc 2 [vp [1] 0 1, ⟨.d (.sl (List.map (D.int .i64) x_.Relocs)), []⟩] <| Rt (some 11) .lenL [] none [.d (.sl (List.map (D.int .i64) x_.Relocs))] (.i (x_.Relocs.length : Int)) [] (cut_len _) <| Rc 6 [vi (IntKind.wrap .i64 (4 * (x_.Relocs.length : Int))), vi (IntKind.wrap .i64 (28 + (IntKind.wrap .i64 (4 * (x_.Relocs.length : Int))))), vi (IntKind.wrap .i64 ((IntKind.wrap .i64 (28 + (IntKind.wrap .i64 (4 * (x_.Relocs.length : Int))))) + 15)), vi (IntKind.wrap .i64 (Int.tdiv (IntKind.wrap .i64 ((IntKind.wrap .i64 (28 + (IntKind.wrap .i64 (4 * (x_.Relocs.length : Int))))) + 15)) 16)), vi (IntKind.wrap .i64 ((IntKind.wrap .i64 (Int.tdiv (IntKind.wrap .i64 ((IntKind.wrap .i64 (28 + (IntKind.wrap .i64 (4 * (x_.Relocs.length : Int))))) + 15)) 16)) * 16)), vi (IntKind.wrap .i64 ((IntKind.wrap .i64 (Int.tdiv (IntKind.wrap .i64 ((IntKind.wrap .i64 (28 + (IntKind.wrap .i64 (4 * (x_.Relocs.length : Int))))) + 15)) 16)) * 16))] <| Rk <| Sq <| Ro <| Rc 3 [vi (IntKind.wrap .i64 ((IntKind.wrap .i64 (Int.tdiv (IntKind.wrap .i64 ((IntKind.wrap .i64 (28 + (IntKind.wrap .i64 (4 * (x_.Relocs.length : Int))))) + 15)) 16)) * 16)), vp [1] 0 0, ⟨.d (.sl (mY x_.Bytes)), []⟩] ?_
 refine Rt (some 20) .lenL [] none [.d (.sl (mY x_.Bytes))] (.i (x_.Bytes.length : Int)) [] (cut_len _) <| Rc 2 [vi (IntKind.wrap .i64 ((IntKind.wrap .i64 ((IntKind.wrap .i64 (Int.tdiv (IntKind.wrap .i64 ((IntKind.wrap .i64 (28 + (IntKind.wrap .i64 (4 * (x_.Relocs.length : Int))))) + 15)) 16)) * 16)) + (x_.Bytes.length : Int))), vi (IntKind.wrap .i64 ((IntKind.wrap .i64 ((IntKind.wrap .i64 (Int.tdiv (IntKind.wrap .i64 ((IntKind.wrap .i64 (28 + (IntKind.wrap .i64 (4 * (x_.Relocs.length : Int))))) + 15)) 16)) * 16)) + (x_.Bytes.length : Int)))] <| Rk <| Sq <| Ro <| Rc 1 [⟨.d (.str ([77, 90] : List UInt8)), []⟩] <| Rk <| Sq <| Ro <| Rc 7 [vi (IntKind.wrap .i64 ((IntKind.wrap .i64 ((IntKind.wrap .i64 (Int.tdiv (IntKind.wrap .i64 ((IntKind.wrap .i64 (28 + (IntKind.wrap .i64 (4 * (x_.Relocs.length : Int))))) + 15)) 16)) * 16)) + (x_.Bytes.length : Int))), vi (Int.tmod (IntKind.wrap .i64 ((IntKind.wrap .i64 ((IntKind.wrap .i64 (Int.tdiv (IntKind.wrap .i64 ((IntKind.wrap .i64 (28 + (IntKind.wrap .i64 (4 * (x_.Relocs.length : Int))))) + 15)) 16)) * 16)) + (x_.Bytes.length : Int))) 512), vi (IntKind.wrap .i64 ((IntKind.wrap .i64 ((IntKind.wrap .i64 (Int.tdiv (IntKind.wrap .i64 ((IntKind.wrap .i64 (28 + (IntKind.wrap .i64 (4 * (x_.Relocs.length : Int))))) + 15)) 16)) * 16)) + (x_.Bytes.length : Int))), vi (IntKind.wrap .i64 ((IntKind.wrap .i64 ((IntKind.wrap .i64 ((IntKind.wrap .i64 (Int.tdiv (IntKind.wrap .i64 ((IntKind.wrap .i64 (28 + (IntKind.wrap .i64 (4 * (x_.Relocs.length : Int))))) + 15)) 16)) * 16)) + (x_.Bytes.length : Int))) + 511)), vi (IntKind.wrap .i64 (Int.tdiv (IntKind.wrap .i64 ((IntKind.wrap .i64 ((IntKind.wrap .i64 ((IntKind.wrap .i64 (Int.tdiv (IntKind.wrap .i64 ((IntKind.wrap .i64 (28 + (IntKind.wrap .i64 (4 * (x_.Relocs.length : Int))))) + 15)) 16)) * 16)) + (x_.Bytes.length : Int))) + 511)) 512)), vp [1] 0 1, ⟨.d (.sl (List.map (D.int .i64) x_.Relocs)), []⟩] ?_
 refine Rt (some 29) .lenL [] none [.d (.sl (List.map (D.int .i64) x_.Relocs))] (.i (x_.Relocs.length : Int)) [] (cut_len _) <| Rc 18 [vi (IntKind.wrap .i64 ((IntKind.wrap .i64 (Int.tdiv (IntKind.wrap .i64 ((IntKind.wrap .i64 (28 + (IntKind.wrap .i64 (4 * (x_.Relocs.length : Int))))) + 15)) 16)) * 16)), vi (IntKind.wrap .i64 (Int.tdiv (IntKind.wrap .i64 ((IntKind.wrap .i64 (Int.tdiv (IntKind.wrap .i64 ((IntKind.wrap .i64 (28 + (IntKind.wrap .i64 (4 * (x_.Relocs.length : Int))))) + 15)) 16)) * 16)) 16)), vp [1] 0 6, vi x_.Min, vp [1] 0 4, vw x_.SS, vi (IntKind.wrap .i64 x_.SS), vp [1] 0 5, vw x_.SP, vi (IntKind.wrap .i64 x_.SP), vp [1] 0 3, vw x_.IP, vi (IntKind.wrap .i64 x_.IP), vp [1] 0 2, vw x_.CS, vi (IntKind.wrap .i64 x_.CS), ⟨.ref [46] 0 0 (List.map (D.int .i64) ([(Int.tmod (IntKind.wrap .i64 ((IntKind.wrap .i64 ((IntKind.wrap .i64 (Int.tdiv (IntKind.wrap .i64 ((IntKind.wrap .i64 (28 + (IntKind.wrap .i64 (4 * (x_.Relocs.length : Int))))) + 15)) 16)) * 16)) + (x_.Bytes.length : Int))) 512), (IntKind.wrap .i64 (Int.tdiv (IntKind.wrap .i64 ((IntKind.wrap .i64 ((IntKind.wrap .i64 ((IntKind.wrap .i64 (Int.tdiv (IntKind.wrap .i64 ((IntKind.wrap .i64 (28 + (IntKind.wrap .i64 (4 * (x_.Relocs.length : Int))))) + 15)) 16)) * 16)) + (x_.Bytes.length : Int))) + 511)) 512)), (x_.Relocs.length : Int), (IntKind.wrap .i64 (Int.tdiv (IntKind.wrap .i64 ((IntKind.wrap .i64 (Int.tdiv (IntKind.wrap .i64 ((IntKind.wrap .i64 (28 + (IntKind.wrap .i64 (4 * (x_.Relocs.length : Int))))) + 15)) 16)) * 16)) 16)), x_.Min, 65535, (IntKind.wrap .i64 x_.SS), (IntKind.wrap .i64 x_.SP), 0, (IntKind.wrap .i64 x_.IP), (IntKind.wrap .i64 x_.CS), 28, 0] : List Int)).length 1, [([46], some (.arr (List.map (D.int .i64) ([(Int.tmod (IntKind.wrap .i64 ((IntKind.wrap .i64 ((IntKind.wrap .i64 (Int.tdiv (IntKind.wrap .i64 ((IntKind.wrap .i64 (28 + (IntKind.wrap .i64 (4 * (x_.Relocs.length : Int))))) + 15)) 16)) * 16)) + (x_.Bytes.length : Int))) 512), (IntKind.wrap .i64 (Int.tdiv (IntKind.wrap .i64 ((IntKind.wrap .i64 ((IntKind.wrap .i64 ((IntKind.wrap .i64 (Int.tdiv (IntKind.wrap .i64 ((IntKind.wrap .i64 (28 + (IntKind.wrap .i64 (4 * (x_.Relocs.length : Int))))) + 15)) 16)) * 16)) + (x_.Bytes.length : Int))) + 511)) 512)), (x_.Relocs.length : Int), (IntKind.wrap .i64 (Int.tdiv (IntKind.wrap .i64 ((IntKind.wrap .i64 (Int.tdiv (IntKind.wrap .i64 ((IntKind.wrap .i64 (28 + (IntKind.wrap .i64 (4 * (x_.Relocs.length : Int))))) + 15)) 16)) * 16)) 16)), x_.Min, 65535, (IntKind.wrap .i64 x_.SS), (IntKind.wrap .i64 x_.SP), 0, (IntKind.wrap .i64 x_.IP), (IntKind.wrap .i64 x_.CS), 28, 0] : List Int)) 0 false))]⟩, ⟨.ref [46] 0 0 (List.map (D.int .i64) ([(Int.tmod (IntKind.wrap .i64 ((IntKind.wrap .i64 ((IntKind.wrap .i64 (Int.tdiv (IntKind.wrap .i64 ((IntKind.wrap .i64 (28 + (IntKind.wrap .i64 (4 * (x_.Relocs.length : Int))))) + 15)) 16)) * 16)) + (x_.Bytes.length : Int))) 512), (IntKind.wrap .i64 (Int.tdiv (IntKind.wrap .i64 ((IntKind.wrap .i64 ((IntKind.wrap .i64 ((IntKind.wrap .i64 (Int.tdiv (IntKind.wrap .i64 ((IntKind.wrap .i64 (28 + (IntKind.wrap .i64 (4 * (x_.Relocs.length : Int))))) + 15)) 16)) * 16)) + (x_.Bytes.length : Int))) + 511)) 512)), (x_.Relocs.length : Int), (IntKind.wrap .i64 (Int.tdiv (IntKind.wrap .i64 ((IntKind.wrap .i64 (Int.tdiv (IntKind.wrap .i64 ((IntKind.wrap .i64 (28 + (IntKind.wrap .i64 (4 * (x_.Relocs.length : Int))))) + 15)) 16)) * 16)) 16)), x_.Min, 65535, (IntKind.wrap .i64 x_.SS), (IntKind.wrap .i64 x_.SP), 0, (IntKind.wrap .i64 x_.IP), (IntKind.wrap .i64 x_.CS), 28, 0] : List Int)).length 1, []⟩] ?_
 refine Rk <| Sq <| Sq <| Ro <| Rc 1 [vi 0] <| Rk <| Runs.block ?_
 obtain ⟨e_1, he_1, h⟩ := bind_s h
 refine Runs.loop (fun x : ((List UInt8) × Int) => hansomref44_Write_l14 x_ (IntKind.wrap .i64 ((IntKind.wrap .i64 (Int.tdiv (IntKind.wrap .i64 ((IntKind.wrap .i64 (28 + (IntKind.wrap .i64 (4 * (x_.Relocs.length : Int))))) + 15)) 16)) * 16)) x.1 ([(Int.tmod (IntKind.wrap .i64 ((IntKind.wrap .i64 ((IntKind.wrap .i64 (Int.tdiv (IntKind.wrap .i64 ((IntKind.wrap .i64 (28 + (IntKind.wrap .i64 (4 * (x_.Relocs.length : Int))))) + 15)) 16)) * 16)) + (x_.Bytes.length : Int))) 512), (IntKind.wrap .i64 (Int.tdiv (IntKind.wrap .i64 ((IntKind.wrap .i64 ((IntKind.wrap .i64 ((IntKind.wrap .i64 (Int.tdiv (IntKind.wrap .i64 ((IntKind.wrap .i64 (28 + (IntKind.wrap .i64 (4 * (x_.Relocs.length : Int))))) + 15)) 16)) * 16)) + (x_.Bytes.length : Int))) + 511)) 512)), (x_.Relocs.length : Int), (IntKind.wrap .i64 (Int.tdiv (IntKind.wrap .i64 ((IntKind.wrap .i64 (Int.tdiv (IntKind.wrap .i64 ((IntKind.wrap .i64 (28 + (IntKind.wrap .i64 (4 * (x_.Relocs.length : Int))))) + 15)) 16)) * 16)) 16)), x_.Min, 65535, (IntKind.wrap .i64 x_.SS), (IntKind.wrap .i64 x_.SP), 0, (IntKind.wrap .i64 x_.IP), (IntKind.wrap .i64 x_.CS), 28, 0] : List Int) x.2) (fun (x : ((List UInt8) × Int)) (g : Unit) => hansomref44_Write_h14 x_ (IntKind.wrap .i64 ((IntKind.wrap .i64 (Int.tdiv (IntKind.wrap .i64 ((IntKind.wrap .i64 (28 + (IntKind.wrap .i64 (4 * (x_.Relocs.length : Int))))) + 15)) 16)) * 16)) x.1 ([(Int.tmod (IntKind.wrap .i64 ((IntKind.wrap .i64 ((IntKind.wrap .i64 (Int.tdiv (IntKind.wrap .i64 ((IntKind.wrap .i64 (28 + (IntKind.wrap .i64 (4 * (x_.Relocs.length : Int))))) + 15)) 16)) * 16)) + (x_.Bytes.length : Int))) 512), (IntKind.wrap .i64 (Int.tdiv (IntKind.wrap .i64 ((IntKind.wrap .i64 ((IntKind.wrap .i64 ((IntKind.wrap .i64 (Int.tdiv (IntKind.wrap .i64 ((IntKind.wrap .i64 (28 + (IntKind.wrap .i64 (4 * (x_.Relocs.length : Int))))) + 15)) 16)) * 16)) + (x_.Bytes.length : Int))) + 511)) 512)), (x_.Relocs.length : Int), (IntKind.wrap .i64 (Int.tdiv (IntKind.wrap .i64 ((IntKind.wrap .i64 (Int.tdiv (IntKind.wrap .i64 ((IntKind.wrap .i64 (28 + (IntKind.wrap .i64 (4 * (x_.Relocs.length : Int))))) + 15)) 16)) * 16)) 16)), x_.Min, 65535, (IntKind.wrap .i64 x_.SS), (IntKind.wrap .i64 x_.SP), 0, (IntKind.wrap .i64 x_.IP), (IntKind.wrap .i64 x_.CS), 28, 0] : List Int) x.2) (hansomref44_Write_P14 x_ x_ (IntKind.wrap .i64 ((IntKind.wrap .i64 (Int.tdiv (IntKind.wrap .i64 ((IntKind.wrap .i64 (28 + (IntKind.wrap .i64 (4 * (x_.Relocs.length : Int))))) + 15)) 16)) * 16)) ([(Int.tmod (IntKind.wrap .i64 ((IntKind.wrap .i64 ((IntKind.wrap .i64 (Int.tdiv (IntKind.wrap .i64 ((IntKind.wrap .i64 (28 + (IntKind.wrap .i64 (4 * (x_.Relocs.length : Int))))) + 15)) 16)) * 16)) + (x_.Bytes.length : Int))) 512), (IntKind.wrap .i64 (Int.tdiv (IntKind.wrap .i64 ((IntKind.wrap .i64 ((IntKind.wrap .i64 ((IntKind.wrap .i64 (Int.tdiv (IntKind.wrap .i64 ((IntKind.wrap .i64 (28 + (IntKind.wrap .i64 (4 * (x_.Relocs.length : Int))))) + 15)) 16)) * 16)) + (x_.Bytes.length : Int))) + 511)) 512)), (x_.Relocs.length : Int), (IntKind.wrap .i64 (Int.tdiv (IntKind.wrap .i64 ((IntKind.wrap .i64 (Int.tdiv (IntKind.wrap .i64 ((IntKind.wrap .i64 (28 + (IntKind.wrap .i64 (4 * (x_.Relocs.length : Int))))) + 15)) 16)) * 16)) 16)), x_.Min, 65535, (IntKind.wrap .i64 x_.SS), (IntKind.wrap .i64 x_.SP), 0, (IntKind.wrap .i64 x_.IP), (IntKind.wrap .i64 x_.CS), 28, 0] : List Int)) (fun x g r hr => hansomref44_Write_l14_ok x_ x_ (IntKind.wrap .i64 ((IntKind.wrap .i64 (Int.tdiv (IntKind.wrap .i64 ((IntKind.wrap .i64 (28 + (IntKind.wrap .i64 (4 * (x_.Relocs.length : Int))))) + 15)) 16)) * 16)) x.1 ([(Int.tmod (IntKind.wrap .i64 ((IntKind.wrap .i64 ((IntKind.wrap .i64 (Int.tdiv (IntKind.wrap .i64 ((IntKind.wrap .i64 (28 + (IntKind.wrap .i64 (4 * (x_.Relocs.length : Int))))) + 15)) 16)) * 16)) + (x_.Bytes.length : Int))) 512), (IntKind.wrap .i64 (Int.tdiv (IntKind.wrap .i64 ((IntKind.wrap .i64 ((IntKind.wrap .i64 ((IntKind.wrap .i64 (Int.tdiv (IntKind.wrap .i64 ((IntKind.wrap .i64 (28 + (IntKind.wrap .i64 (4 * (x_.Relocs.length : Int))))) + 15)) 16)) * 16)) + (x_.Bytes.length : Int))) + 511)) 512)), (x_.Relocs.length : Int), (IntKind.wrap .i64 (Int.tdiv (IntKind.wrap .i64 ((IntKind.wrap .i64 (Int.tdiv (IntKind.wrap .i64 ((IntKind.wrap .i64 (28 + (IntKind.wrap .i64 (4 * (x_.Relocs.length : Int))))) + 15)) 16)) * 16)) 16)), x_.Min, 65535, (IntKind.wrap .i64 x_.SS), (IntKind.wrap .i64 x_.SP), 0, (IntKind.wrap .i64 x_.IP), (IntKind.wrap .i64 x_.CS), 28, 0] : List Int) x.2  r hr) () he_1 (Canon.cons (frz_ref (e := (D.int .i64)) (l := ([(Int.tmod (IntKind.wrap .i64 ((IntKind.wrap .i64 ((IntKind.wrap .i64 (Int.tdiv (IntKind.wrap .i64 ((IntKind.wrap .i64 (28 + (IntKind.wrap .i64 (4 * (x_.Relocs.length : Int))))) + 15)) 16)) * 16)) + (x_.Bytes.length : Int))) 512), (IntKind.wrap .i64 (Int.tdiv (IntKind.wrap .i64 ((IntKind.wrap .i64 ((IntKind.wrap .i64 ((IntKind.wrap .i64 (Int.tdiv (IntKind.wrap .i64 ((IntKind.wrap .i64 (28 + (IntKind.wrap .i64 (4 * (x_.Relocs.length : Int))))) + 15)) 16)) * 16)) + (x_.Bytes.length : Int))) + 511)) 512)), (x_.Relocs.length : Int), (IntKind.wrap .i64 (Int.tdiv (IntKind.wrap .i64 ((IntKind.wrap .i64 (Int.tdiv (IntKind.wrap .i64 ((IntKind.wrap .i64 (28 + (IntKind.wrap .i64 (4 * (x_.Relocs.length : Int))))) + 15)) 16)) * 16)) 16)), x_.Min, 65535, (IntKind.wrap .i64 x_.SS), (IntKind.wrap .i64 x_.SP), 0, (IntKind.wrap .i64 x_.IP), (IntKind.wrap .i64 x_.CS), 28, 0] : List Int)) (id := [46]) (v := 0) (n := 1) (fz := false) (by kernel_rfl) (by kernel_rfl) rfl) Cz) ?_
 rintro ⟨o, s⟩ hp
 obtain ⟨ho, g_1, hk_1⟩ := hp
 have ho' : o = .exit 0 := ho
 subst ho'
 refine kB_hit <| kS_nrm <| Runs.canon _ hk_1 <| Sq <| Sq <| Ro <| Rc 1 [vi 0] <| Rk <| Runs.block ?_
 obtain ⟨e_2, he_2, h⟩ := bind_s h
 refine Runs.loop (fun x : ((List UInt8) × Int) => hansomref44_Write_l29 x_ (IntKind.wrap .i64 ((IntKind.wrap .i64 (Int.tdiv (IntKind.wrap .i64 ((IntKind.wrap .i64 (28 + (IntKind.wrap .i64 (4 * (x_.Relocs.length : Int))))) + 15)) 16)) * 16)) x.1 x.2) (fun (x : ((List UInt8) × Int)) (g : Unit) => hansomref44_Write_h29 x_ (IntKind.wrap .i64 ((IntKind.wrap .i64 (Int.tdiv (IntKind.wrap .i64 ((IntKind.wrap .i64 (28 + (IntKind.wrap .i64 (4 * (x_.Relocs.length : Int))))) + 15)) 16)) * 16)) x.1 x.2) (hansomref44_Write_P29 x_ x_ (IntKind.wrap .i64 ((IntKind.wrap .i64 (Int.tdiv (IntKind.wrap .i64 ((IntKind.wrap .i64 (28 + (IntKind.wrap .i64 (4 * (x_.Relocs.length : Int))))) + 15)) 16)) * 16))) (fun x g r hr => hansomref44_Write_l29_ok x_ x_ (IntKind.wrap .i64 ((IntKind.wrap .i64 (Int.tdiv (IntKind.wrap .i64 ((IntKind.wrap .i64 (28 + (IntKind.wrap .i64 (4 * (x_.Relocs.length : Int))))) + 15)) 16)) * 16)) x.1 x.2  r hr) () he_2 Cz ?_
 rintro ⟨o, s⟩ hp
 obtain ⟨ho, g_2, hk_2⟩ := hp
 have ho' : o = .exit 2 := ho
 subst ho'
 refine kB_hit <| kS_nrm <| Runs.canon _ hk_2 <| Sq <| Runs.block ?_
 obtain ⟨e_3, he_3, h⟩ := bind_s h
 refine Runs.loop (fun x : (List UInt8) => hansomref44_Write_l42 x_ (IntKind.wrap .i64 ((IntKind.wrap .i64 (Int.tdiv (IntKind.wrap .i64 ((IntKind.wrap .i64 (28 + (IntKind.wrap .i64 (4 * (x_.Relocs.length : Int))))) + 15)) 16)) * 16)) x) (fun (x : (List UInt8)) (g : Unit) => hansomref44_Write_h42 x_ (IntKind.wrap .i64 ((IntKind.wrap .i64 (Int.tdiv (IntKind.wrap .i64 ((IntKind.wrap .i64 (28 + (IntKind.wrap .i64 (4 * (x_.Relocs.length : Int))))) + 15)) 16)) * 16)) x) (hansomref44_Write_P42 x_ x_ (IntKind.wrap .i64 ((IntKind.wrap .i64 (Int.tdiv (IntKind.wrap .i64 ((IntKind.wrap .i64 (28 + (IntKind.wrap .i64 (4 * (x_.Relocs.length : Int))))) + 15)) 16)) * 16))) (fun x g r hr => hansomref44_Write_l42_ok x_ x_ (IntKind.wrap .i64 ((IntKind.wrap .i64 (Int.tdiv (IntKind.wrap .i64 ((IntKind.wrap .i64 (28 + (IntKind.wrap .i64 (4 * (x_.Relocs.length : Int))))) + 15)) 16)) * 16)) x  r hr) () he_3 Cz ?_
 rintro ⟨o, s⟩ hp
 obtain ⟨ho, g_3, hk_3⟩ := hp
 have ho' : o = .exit 4 := ho
 subst ho'
 refine kB_hit <| kS_nrm <| Runs.canon _ hk_3 <| Sq <| Ro <| Rc 3 [⟨.d (.str e_3), []⟩, vp [1] 0 0, ⟨.d (.sl (mY x_.Bytes)), []⟩] <| Rt (some 96) .bytesStr [] none [.d (.sl (mY x_.Bytes))] (.d (.str (b2s x_.Bytes))) [] (cut_bs _) ?_
 obtain ⟨z_1, hz_1, h⟩ := bind_s h
 refine Rt (some 97) (.bin .add) [] none [.d (.str e_3), .d (.str (b2s x_.Bytes))] (.d (.str z_1)) [] (cut_cat hz_1) <| Rc 1 [⟨.d (.str z_1), []⟩] <| Rk <| Runs.ret ?_
 cases h
 exact Fq
theorem hansomref44_Write_L (x_ : Image) (r : (List UInt8)) (h : hansomref44_Write x_ = some r) : L 30 [.d (Image.d x_)] = some (.d (.str r), [.d (Image.d x_)]) := by
 obtain ⟨p, ⟨hne, hf⟩, hr⟩ := hansomref44_Write_ok x_ r h
 obtain ⟨k, hk⟩ := run_of (F := F30) (args := [.d (Image.d x_)]) (ap := [.d (Image.d x_)]) (bx0 := updW (fun _ => none) []) rfl rfl (by kernel_rfl) ⟨p, ⟨hne, hf⟩, hr⟩
 exact lim_run (k := k) rfl hk
def index_From_Q (b_ : (List Int)) (r : Source) (p : Out × St) : Prop := (∀ i, p.1 ≠ .exit i) ∧ finF F50 [.d (.sl (mY b_))] p.2 = some (.ptr [.d (.sl (mY r.b)), .i r.e], [.d (.sl (mY b_))])
theorem index_From_ok (b_ : (List Int)) (r : Source) (h : index_From b_ = some r) : Runs L F50.body ⟨tmOf [.d (.sl (mY b_))] 0, updW (fun _ => none) []⟩ (index_From_Q b_ r) := by
 unfold index_From at h
 refine Sq <| Ro <| Rc 1 [⟨.nilp, []⟩] <| Rk <| Sq <| Ro <| Rc 1 [⟨.d (.sl (mY b_)), []⟩] ?_
 obtain ⟨z_1, hz_1, h⟩ := bind_s h
 refine Rt (some 4) (.append 1 1 false) [] none [.nils, .d (.sl (mY b_))] (.ref [4] 0 0 (mY z_1).length 1) [([4], some (.arr (mY z_1) 0 false))] (cut_appN (e := (D.int .u8)) (ws := []) (ap_data _) (fun _ => rfl) hz_1 (by kernel_rfl)) <| Rc 3 [⟨.mix [.ref [4] 0 0 (mY z_1).length 1, .i 0], []⟩, ⟨.ptr [6] 0 0, [([6], some (.cells [.ref [4] 0 0 (mY z_1).length 1, .i 0] 0))]⟩, vp [6] 0 0] <| Rk <| Sq <| Runs.gcons (frzB_ref (e := (D.int .u8)) (l := z_1) (id := [6]) (id' := [4]) (v := 0) (n := 1) (fz := false) (ver := 0) (cs := [.ref [4] 0 0 (mY z_1).length 1, .i 0]) (cs' := [.d (.sl (mY z_1)), .i 0]) (by kernel_rfl) (by kernel_rfl) (by kernel_rfl) (by decide) (by kernel_rfl) rfl) <| Runs.gnil <| kS_nrm <| Runs.ret ?_
 cases h
 exact Fq
theorem index_From_L (b_ : (List Int)) (r : Source) (h : index_From b_ = some r) : L 50 [.d (.sl (mY b_))] = some (.ptr [.d (.sl (mY r.b)), .i r.e], [.d (.sl (mY b_))]) := by
 obtain ⟨p, ⟨hne, hf⟩, hr⟩ := index_From_ok b_ r h
 obtain ⟨k, hk⟩ := run_of (F := F50) (args := [.d (.sl (mY b_))]) (ap := [.d (.sl (mY b_))]) (bx0 := updW (fun _ => none) []) rfl rfl (by kernel_rfl) ⟨p, ⟨hne, hf⟩, hr⟩
 exact lim_run (k := k) rfl hk
def index_Source_Wrong_Q (s_ : Source) (e_ : Int) (r : Source) (p : Out × St) : Prop := (∀ i, p.1 ≠ .exit i) ∧ finF F56 [.ptr [0] 0 0, .i e_] p.2 = some (.tup [], [.ptr [.d (.sl (mY r.b)), .i r.e], .i e_])
theorem index_Source_Wrong_ok (s_ : Source) (e_ : Int) (r : Source) (h : index_Source_Wrong s_ e_ = some r) : Runs L F56.body ⟨tmOf [.ptr [0] 0 0, .i e_] 0, updW (fun _ => none) [([0], some (.cells [.d (.sl (mY s_.b)), .i s_.e] 0))]⟩ (index_Source_Wrong_Q s_ e_ r) := by
 unfold index_Source_Wrong at h
 refine Sq <| Sq <| Ro <| Rc 10 [vp [0] 0 0, vb true, vb true, vp [0] 0 0, vp [0] 0 0, vp [0] 0 1, vi s_.e, vb (s_.e == 0), vb (s_.e == 0), vb (s_.e == 0)] ?_
 cases hb_1 : ((s_.e == 0) : Bool) with
 | true =>
  replace h := ite_t hb_1 h
  refine Rc 3 [vi e_, vb (e_ != 0), vb (e_ != 0)] <| Rk ?_
  cases hb_2 : ((e_ != 0) : Bool) with
  | true =>
   replace h := ite_t hb_2 h
   refine Ct <| Ro <| Rc 9 [vp [0] 0 0, vp [0] 0 0, vi e_, vp [0] 0 0, vp [0] 0 1, ⟨.tup [], [([0], some (.cells [.d (.sl (mY s_.b)), .i e_] 0))]⟩, vp [0] 0 0, vp [0] 0 0, ⟨.tup [], [([0], some (.cells [.nils, .i e_] 0))]⟩] <| Rk <| Runs.gcons (frzB_nil (ver := 0) (cs := [.nils, .i e_]) (cs' := [.d (.sl (mY ([] : List Int))), .i e_]) (D.int .u8) (by kernel_rfl) (by kernel_rfl) (by kernel_rfl)) <| Runs.gnil ?_
   obtain rfl := sj h
   exact ⟨Out.nrm_ne, (by kernel_rfl)⟩
  | false =>
   replace h := ite_f hb_2 h
   refine Cf <| Runs.skip <| kS_nrm <| Runs.gsame (by kernel_rfl) <| Runs.gnil ?_
   obtain rfl := sj h
   exact ⟨Out.nrm_ne, (by kernel_rfl)⟩
 | false =>
  replace h := ite_f hb_1 h
  refine Rc 3 [vn, vn, vb false] <| Rk <| Cf <| Runs.skip <| kS_nrm <| Runs.gsame (by kernel_rfl) <| Runs.gnil ?_
  obtain rfl := sj h
  exact ⟨Out.nrm_ne, (by kernel_rfl)⟩
theorem index_Source_Wrong_L (s_ : Source) (e_ : Int) (r : Source) (h : index_Source_Wrong s_ e_ = some r) : L 56 [.ptr [.d (.sl (mY s_.b)), .i s_.e], .i e_] = some (.tup [], [.ptr [.d (.sl (mY r.b)), .i r.e], .i e_]) := by
 obtain ⟨p, ⟨hne, hf⟩, hr⟩ := index_Source_Wrong_ok s_ e_ r h
 obtain ⟨k, hk⟩ := run_of (F := F56) (args := [.ptr [.d (.sl (mY s_.b)), .i s_.e], .i e_]) (ap := [.ptr [0] 0 0, .i e_]) (bx0 := updW (fun _ => none) [([0], some (.cells [.d (.sl (mY s_.b)), .i s_.e] 0))]) rfl rfl (by kernel_rfl) ⟨p, ⟨hne, hf⟩, hr⟩
 exact lim_run (k := k) rfl hk
def index_Source_Take_Q (s_ : Source) (n_ : Int) (r : ((List Int) × Source)) (p : Out × St) : Prop := (∀ i, p.1 ≠ .exit i) ∧ finF F99 [.ptr [0] 0 0, .i n_] p.2 = some (.d (.sl (mY r.1)), [.ptr [.d (.sl (mY r.2.b)), .i r.2.e], .i n_])
theorem index_Source_Take_ok (s_ : Source) (n_ : Int) (r : ((List Int) × Source)) (h : index_Source_Take s_ n_ = some r) : Runs L F99.body ⟨tmOf [.ptr [0] 0 0, .i n_] 0, updW (fun _ => none) [([0], some (.cells [.d (.sl (mY s_.b)), .i s_.e] 0))]⟩ (index_Source_Take_Q s_ n_ r) := by
 unfold index_Source_Take at h
 refine Sq <| Ro <| Rc 1 [⟨.nils, []⟩] <| Rk <| Sq <| Sq <| Ro <| Rc 2 [vp [0] 0 0, vb false] <| Rk <| Cf <| Runs.skip <| kS_nrm <| Sq <| Sq <| Ro <| Rc 3 [vi n_, vb (decide (n_ < 0)), vb (decide (n_ < 0))] ?_
 cases hb_1 : ((decide (n_ < 0)) : Bool) with
 | true =>
  replace h := ite_t hb_1 h
  refine Rc 8 [vn, vn, vn, vn, vn, vn, vn, vb true] <| Rk <| Ct <| Sq <| Ro <| Rc 1 [vp [0] 0 0] ?_
  obtain ⟨r_1, hr_1, h⟩ := bind_s h
  have hc_1 := index_Source_Wrong_L s_ 2 r_1 hr_1
  refine Rt (some 20) (.callf 56) [] none [.ptr [0] 0 0, .i 2] (.tup []) [([0], some (.cells [.d (.sl (mY r_1.b)), .i r_1.e] 0))] (cut_call (call_of (ws := []) (us := [([0], some (.cells [.d (.sl (mY r_1.b)), .i r_1.e] 0))]) (by kernel_rfl) (by kernel_rfl) hc_1 (by kernel_rfl) (by kernel_rfl))) <| Rk <| Sq <| Ro <| Rc 1 [⟨.nils, []⟩] <| Rk <| Sq <| Runs.gcons (frz_nil (D.int .u8) (by kernel_rfl)) <| Runs.gnil <| kS_nrm <| Runs.ret <| kS_ret ?_
  cases h
  exact Fq
 | false =>
  replace h := ite_f hb_1 h
  refine Rc 5 [vi n_, vp [0] 0 0, vp [0] 0 0, vp [0] 0 0, ⟨.d (.sl (mY s_.b)), []⟩] <| Rt (some 16) .lenL [] none [.d (.sl (mY s_.b))] (.i (s_.b.length : Int)) [] (cut_len _) <| Rc 2 [vb (decide (n_ > (s_.b.length : Int))), vb (decide (n_ > (s_.b.length : Int)))] <| Rk ?_
  cases hb_2 : ((decide (n_ > (s_.b.length : Int))) : Bool) with
  | true =>
   replace h := ite_t hb_2 h
   refine Ct <| Sq <| Ro <| Rc 1 [vp [0] 0 0] ?_
   obtain ⟨r_2, hr_2, h⟩ := bind_s h
   have hc_2 := index_Source_Wrong_L s_ 2 r_2 hr_2
   refine Rt (some 20) (.callf 56) [] none [.ptr [0] 0 0, .i 2] (.tup []) [([0], some (.cells [.d (.sl (mY r_2.b)), .i r_2.e] 0))] (cut_call (call_of (ws := []) (us := [([0], some (.cells [.d (.sl (mY r_2.b)), .i r_2.e] 0))]) (by kernel_rfl) (by kernel_rfl) hc_2 (by kernel_rfl) (by kernel_rfl))) <| Rk <| Sq <| Ro <| Rc 1 [⟨.nils, []⟩] <| Rk <| Sq <| Runs.gcons (frz_nil (D.int .u8) (by kernel_rfl)) <| Runs.gnil <| kS_nrm <| Runs.ret <| kS_ret ?_
   cases h
   exact Fq
  | false =>
   replace h := ite_f hb_2 h
   refine Cf <| Runs.skip <| kS_nrm <| Sq <| Ro <| Rc 6 [vp [0] 0 0, vp [0] 0 0, vp [0] 0 0, ⟨.d (.sl (mY s_.b)), []⟩, vi n_, vi n_] ?_
   obtain ⟨z_1, hz_1, h⟩ := bind_s h
   refine Rt (some 27) (.subsl 1 false true true) [] none [.d (.sl (mY s_.b)), .i n_, .i n_] (.d (.sl (mY z_1))) [] (cut_slFTT hz_1 (fun _ => rfl)) <| Rc 1 [⟨.d (.sl (mY z_1)), []⟩] <| Rk <| Sq <| Ro <| Rc 6 [vp [0] 0 0, vp [0] 0 0, vp [0] 0 0, vp [0] 0 0, ⟨.d (.sl (mY s_.b)), []⟩, vi n_] ?_
   obtain ⟨z_2, hz_2, h⟩ := bind_s h
   refine Rt (some 34) (.subsl 1 true false false) [] none [.d (.sl (mY s_.b)), .i n_] (.d (.sl (mY z_2))) [] (cut_slTF hz_2 (fun _ => rfl)) <| Rc 3 [vp [0] 0 0, vp [0] 0 0, ⟨.tup [], [([0], some (.cells [.d (.sl (mY z_2)), .i s_.e] 0))]⟩] <| Rk <| Sq <| Ro <| Rc 2 [⟨.d (.sl (mY z_1)), []⟩, ⟨.d (.sl (mY z_1)), []⟩] <| Rk <| Runs.ret ?_
   cases h
   exact Fq
theorem index_Source_Take_L (s_ : Source) (n_ : Int) (r : ((List Int) × Source)) (h : index_Source_Take s_ n_ = some r) : L 99 [.ptr [.d (.sl (mY s_.b)), .i s_.e], .i n_] = some (.d (.sl (mY r.1)), [.ptr [.d (.sl (mY r.2.b)), .i r.2.e], .i n_]) := by
 obtain ⟨p, ⟨hne, hf⟩, hr⟩ := index_Source_Take_ok s_ n_ r h
 obtain ⟨k, hk⟩ := run_of (F := F99) (args := [.ptr [.d (.sl (mY s_.b)), .i s_.e], .i n_]) (ap := [.ptr [0] 0 0, .i n_]) (bx0 := updW (fun _ => none) [([0], some (.cells [.d (.sl (mY s_.b)), .i s_.e] 0))]) rfl rfl (by kernel_rfl) ⟨p, ⟨hne, hf⟩, hr⟩
 exact lim_run (k := k) rfl hk
def bits_Word_Q (low_ : Int) (high_ : Int) (r : Int) (p : Out × St) : Prop := (∀ i, p.1 ≠ .exit i) ∧ finF F102 [.y low_, .y high_] p.2 = some (.w r, [.y low_, .y high_])
theorem bits_Word_ok (low_ : Int) (high_ : Int) (r : Int) (h : bits_Word low_ high_ = some r) : Runs L F102.body ⟨tmOf [.y low_, .y high_] 0, updW (fun _ => none) []⟩ (bits_Word_Q low_ high_ r) := by
 unfold bits_Word at h
 refine Sq <| Ro <| Rc 1 [vw 0] <| Rk <| Sq <| Ro <| Rc 7 [vy low_, vw (IntKind.wrap .u16 low_), vy high_, vw (IntKind.wrap .u16 high_), vw (shlI .u16 (IntKind.wrap .u16 high_) 8), vw (bitsOp .or .u16 (IntKind.wrap .u16 low_) (shlI .u16 (IntKind.wrap .u16 high_) 8)), vw (bitsOp .or .u16 (IntKind.wrap .u16 low_) (shlI .u16 (IntKind.wrap .u16 high_) 8))] <| Rk <| Runs.ret ?_
 cases h
 exact Fq
theorem bits_Word_L (low_ : Int) (high_ : Int) (r : Int) (h : bits_Word low_ high_ = some r) : L 102 [.y low_, .y high_] = some (.w r, [.y low_, .y high_]) := by
 obtain ⟨p, ⟨hne, hf⟩, hr⟩ := bits_Word_ok low_ high_ r h
 obtain ⟨k, hk⟩ := run_of (F := F102) (args := [.y low_, .y high_]) (ap := [.y low_, .y high_]) (bx0 := updW (fun _ => none) []) rfl rfl (by kernel_rfl) ⟨p, ⟨hne, hf⟩, hr⟩
 exact lim_run (k := k) rfl hk
def index_Source_Word_Q (s_ : Source) (r : (Int × Source)) (p : Out × St) : Prop := (∀ i, p.1 ≠ .exit i) ∧ finF F64 [.ptr [0] 0 0] p.2 = some (.w r.1, [.ptr [.d (.sl (mY r.2.b)), .i r.2.e]])
theorem index_Source_Word_ok (s_ : Source) (r : (Int × Source)) (h : index_Source_Word s_ = some r) : Runs L F64.body ⟨tmOf [.ptr [0] 0 0] 0, updW (fun _ => none) [([0], some (.cells [.d (.sl (mY s_.b)), .i s_.e] 0))]⟩ (index_Source_Word_Q s_ r) := by
 unfold index_Source_Word at h
 refine Sq <| Ro <| Rc 1 [vw 0] <| Rk <| Sq <| Sq <| Ro <| Rc 1 [vp [0] 0 0] ?_
 obtain ⟨r_1, hr_1, h⟩ := bind_s h
 have hc_1 := index_Source_Take_L s_ 2 r_1 hr_1
 refine Rt (some 5) (.callf 99) [] none [.ptr [0] 0 0, .i 2] (.d (.sl (mY r_1.1))) [([0], some (.cells [.d (.sl (mY r_1.2.b)), .i r_1.2.e] 0))] (cut_call (call_of (ws := []) (us := [([0], some (.cells [.d (.sl (mY r_1.2.b)), .i r_1.2.e] 0))]) (by kernel_rfl) (by kernel_rfl) hc_1 (by kernel_rfl) (by kernel_rfl))) <| Rc 1 [⟨.d (.sl (mY r_1.1)), []⟩] <| Rk <| Sq <| Ro <| Rc 1 [⟨.d (.sl (mY r_1.1)), []⟩] <| Rt (some 7) .lenL [] none [.d (.sl (mY r_1.1))] (.i (r_1.1.length : Int)) [] (cut_len _) <| Rc 1 [vb ((r_1.1.length : Int) == 2)] <| Rk ?_
 cases hb_1 : (((r_1.1.length : Int) == 2) : Bool) with
 | true =>
  replace h := ite_t hb_1 h
  refine Ct <| Sq <| Ro <| Rc 1 [⟨.d (.sl (mY r_1.1)), []⟩] ?_
  obtain ⟨z_1, hz_1, h⟩ := bind_s h
  refine Rt (some 10) (.iaddrS 1) [] none [.d (.sl (mY r_1.1)), .i 0] (.elt (.int .u8 z_1) 0) [] (cut_at hz_1 (fun _ => rfl)) <| Rc 2 [vy z_1, ⟨.d (.sl (mY r_1.1)), []⟩] ?_
  obtain ⟨z_2, hz_2, h⟩ := bind_s h
  refine Rt (some 13) (.iaddrS 1) [] none [.d (.sl (mY r_1.1)), .i 1] (.elt (.int .u8 z_2) 0) [] (cut_at hz_2 (fun _ => rfl)) <| Rc 1 [vy z_2] ?_
  obtain ⟨r_2, hr_2, h⟩ := bind_s h
  have hc_2 := bits_Word_L z_1 z_2 r_2 hr_2
  refine Rt (some 15) (.callf 102) [] none [.y z_1, .y z_2] (.w r_2) [] (cc hc_2) <| Rc 1 [vw r_2] <| Rk <| Runs.ret <| kS_ret ?_
  cases h
  exact Fq
 | false =>
  replace h := ite_f hb_1 h
  refine Cf <| Runs.skip <| kS_nrm <| Sq <| Ro <| Rc 1 [vw 0] <| Rk <| Runs.ret ?_
  cases h
  exact Fq
theorem index_Source_Word_L (s_ : Source) (r : (Int × Source)) (h : index_Source_Word s_ = some r) : L 64 [.ptr [.d (.sl (mY s_.b)), .i s_.e]] = some (.w r.1, [.ptr [.d (.sl (mY r.2.b)), .i r.2.e]]) := by
 obtain ⟨p, ⟨hne, hf⟩, hr⟩ := index_Source_Word_ok s_ r h
 obtain ⟨k, hk⟩ := run_of (F := F64) (args := [.ptr [.d (.sl (mY s_.b)), .i s_.e]]) (ap := [.ptr [0] 0 0]) (bx0 := updW (fun _ => none) [([0], some (.cells [.d (.sl (mY s_.b)), .i s_.e] 0))]) rfl rfl (by kernel_rfl) ⟨p, ⟨hne, hf⟩, hr⟩
 exact lim_run (k := k) rfl hk
def mz_first_Q (b_ : (List Int)) (r : (Header × Int)) (p : Out × St) : Prop := (∀ i, p.1 ≠ .exit i) ∧ finF F72 [.d (.sl (mY b_))] p.2 = some (.tup [.d (Header.d r.1), .i r.2], [.d (.sl (mY b_))])
theorem mz_first_ok (b_ : (List Int)) (r : (Header × Int)) (h : mz_first b_ = some r) : Runs L F72.body ⟨tmOf [.d (.sl (mY b_))] 0, updW (fun _ => none) []⟩ (mz_first_Q b_ r) := by
 unfold mz_first at h
 refine Sq <| Ro <| Rc 2 [⟨.ptr [2] 0 0, [([2], some (.cells [.w 0, .w 0, .w 0, .w 0, .w 0, .w 0, .w 0, .w 0, .w 0, .w 0] 0))]⟩, vi 0] <| Rk <| Sq <| Sq <| Ro <| Rc 1 [⟨.d (.sl (mY b_)), []⟩] <| Rt (some 8) .lenL [] none [.d (.sl (mY b_))] (.i (b_.length : Int)) [] (cut_len _) <| Rc 1 [vb (decide ((b_.length : Int) < 28))] <| Rk ?_
 cases hb_1 : ((decide ((b_.length : Int) < 28)) : Bool) with
 | true =>
  replace h := ite_t hb_1 h
  refine Ct <| Sq <| Ro <| Rc 3 [⟨.d (.agg [.int .u16 0, .int .u16 0, .int .u16 0, .int .u16 0, .int .u16 0, .int .u16 0, .int .u16 0, .int .u16 0, .int .u16 0, .int .u16 0]), []⟩, ⟨.tup [], [([2], some (.cells [.w 0, .w 0, .w 0, .w 0, .w 0, .w 0, .w 0, .w 0, .w 0, .w 0] 0))]⟩, vi 2] <| Rk <| Runs.ret <| kS_ret ?_
  cases h
  exact Fq
 | false =>
  replace h := ite_f hb_1 h
  refine Cf <| Runs.skip <| kS_nrm <| Sq <| Sq <| Ro <| Rc 1 [⟨.d (.sl (mY b_)), []⟩] ?_
  obtain ⟨z_1, hz_1, h⟩ := bind_s h
  refine Rt (some 12) (.iaddrS 1) [] none [.d (.sl (mY b_)), .i 0] (.elt (.int .u8 z_1) 0) [] (cut_at hz_1 (fun _ => rfl)) <| Rc 3 [vy z_1, vb (z_1 != 77), vb (z_1 != 77)] ?_
  cases hb_2 : ((z_1 != 77) : Bool) with
  | true =>
   replace h := ite_t hb_2 h
   refine Rc 5 [vn, vn, vn, vn, vb true] <| Rk <| Ct <| Sq <| Ro <| Rc 3 [⟨.d (.agg [.int .u16 0, .int .u16 0, .int .u16 0, .int .u16 0, .int .u16 0, .int .u16 0, .int .u16 0, .int .u16 0, .int .u16 0, .int .u16 0]), []⟩, ⟨.tup [], [([2], some (.cells [.w 0, .w 0, .w 0, .w 0, .w 0, .w 0, .w 0, .w 0, .w 0, .w 0] 0))]⟩, vi 440] <| Rk <| Runs.ret <| kS_ret ?_
   cases h
   exact Fq
  | false =>
   replace h := ite_f hb_2 h
   refine Rc 1 [⟨.d (.sl (mY b_)), []⟩] ?_
   obtain ⟨z_2, hz_2, h⟩ := bind_s h
   refine Rt (some 17) (.iaddrS 1) [] none [.d (.sl (mY b_)), .i 1] (.elt (.int .u8 z_2) 0) [] (cut_at hz_2 (fun _ => rfl)) <| Rc 3 [vy z_2, vb (z_2 != 90), vb (z_2 != 90)] <| Rk ?_
   cases hb_3 : ((z_2 != 90) : Bool) with
   | true =>
    replace h := ite_t hb_3 h
    refine Ct <| Sq <| Ro <| Rc 3 [⟨.d (.agg [.int .u16 0, .int .u16 0, .int .u16 0, .int .u16 0, .int .u16 0, .int .u16 0, .int .u16 0, .int .u16 0, .int .u16 0, .int .u16 0]), []⟩, ⟨.tup [], [([2], some (.cells [.w 0, .w 0, .w 0, .w 0, .w 0, .w 0, .w 0, .w 0, .w 0, .w 0] 0))]⟩, vi 440] <| Rk <| Runs.ret <| kS_ret ?_
    cases h
    exact Fq
   | false =>
    replace h := ite_f hb_3 h
    refine Cf <| Runs.skip <| kS_nrm <| Sq <| Ro <| Rc 1 [⟨.d (.sl (mY b_)), []⟩] ?_
    obtain ⟨z_3, hz_3, h⟩ := bind_s h
    refine Rt (some 23) (.subsl 1 true true false) [] none [.d (.sl (mY b_)), .i 2, .i 28] (.d (.sl (mY z_3))) [] (cut_slTT hz_3 (fun _ => rfl)) ?_
    obtain ⟨r_1, hr_1, h⟩ := bind_s h
    have hc_1 := index_From_L z_3 r_1 hr_1
    refine Rt (some 24) (.callf 50) [] none [.d (.sl (mY z_3))] (.ptr [24] 0 0) [([24], some (.cells [.d (.sl (mY r_1.b)), .i r_1.e] 0))] (cc hc_1) <| Rc 1 [vp [24] 0 0] <| Rk <| Sq <| Ro <| Rc 1 [⟨.fn 64 [], []⟩] <| Rk <| Sq <| Ro <| Rc 2 [⟨.fn 64 [], []⟩, vp [24] 0 0] ?_
    obtain ⟨r_2, hr_2, h⟩ := bind_s h
    have hc_2 := index_Source_Word_L r_1 r_2 hr_2
    refine Rt (some 27) .callv [] none [.fn 64 [], .ptr [24] 0 0] (.w r_2.1) [([24], some (.cells [.d (.sl (mY r_2.2.b)), .i r_2.2.e] 0))] (cut_callv (call_of (ws := []) (us := [([24], some (.cells [.d (.sl (mY r_2.2.b)), .i r_2.2.e] 0))]) (by kernel_rfl) (by kernel_rfl) hc_2 (by kernel_rfl) (by kernel_rfl))) <| Rc 2 [⟨.fn 64 [], []⟩, vp [24] 0 0] ?_
    obtain ⟨r_3, hr_3, h⟩ := bind_s h
    have hc_3 := index_Source_Word_L r_2.2 r_3 hr_3
    refine Rt (some 30) .callv [] none [.fn 64 [], .ptr [24] 0 0] (.w r_3.1) [([24], some (.cells [.d (.sl (mY r_3.2.b)), .i r_3.2.e] 0))] (cut_callv (call_of (ws := []) (us := [([24], some (.cells [.d (.sl (mY r_3.2.b)), .i r_3.2.e] 0))]) (by kernel_rfl) (by kernel_rfl) hc_3 (by kernel_rfl) (by kernel_rfl))) <| Rc 2 [⟨.fn 64 [], []⟩, vp [24] 0 0] ?_
    obtain ⟨r_4, hr_4, h⟩ := bind_s h
    have hc_4 := index_Source_Word_L r_3.2 r_4 hr_4
    refine Rt (some 33) .callv [] none [.fn 64 [], .ptr [24] 0 0] (.w r_4.1) [([24], some (.cells [.d (.sl (mY r_4.2.b)), .i r_4.2.e] 0))] (cut_callv (call_of (ws := []) (us := [([24], some (.cells [.d (.sl (mY r_4.2.b)), .i r_4.2.e] 0))]) (by kernel_rfl) (by kernel_rfl) hc_4 (by kernel_rfl) (by kernel_rfl))) <| Rc 2 [⟨.fn 64 [], []⟩, vp [24] 0 0] ?_
    obtain ⟨r_5, hr_5, h⟩ := bind_s h
    have hc_5 := index_Source_Word_L r_4.2 r_5 hr_5
    refine Rt (some 36) .callv [] none [.fn 64 [], .ptr [24] 0 0] (.w r_5.1) [([24], some (.cells [.d (.sl (mY r_5.2.b)), .i r_5.2.e] 0))] (cut_callv (call_of (ws := []) (us := [([24], some (.cells [.d (.sl (mY r_5.2.b)), .i r_5.2.e] 0))]) (by kernel_rfl) (by kernel_rfl) hc_5 (by kernel_rfl) (by kernel_rfl))) <| Rc 2 [⟨.fn 64 [], []⟩, vp [24] 0 0] ?_
    obtain ⟨r_6, hr_6, h⟩ := bind_s h
    have hc_6 := index_Source_Word_L r_5.2 r_6 hr_6
    refine Rt (some 39) .callv [] none [.fn 64 [], .ptr [24] 0 0] (.w r_6.1) [([24], some (.cells [.d (.sl (mY r_6.2.b)), .i r_6.2.e] 0))] (cut_callv (call_of (ws := []) (us := [([24], some (.cells [.d (.sl (mY r_6.2.b)), .i r_6.2.e] 0))]) (by kernel_rfl) (by kernel_rfl) hc_6 (by kernel_rfl) (by kernel_rfl))) <| Rc 3 [⟨.d (.agg [.int .u16 r_2.1, .int .u16 r_3.1, .int .u16 r_4.1, .int .u16 r_5.1, .int .u16 r_6.1, .int .u16 0, .int .u16 0, .int .u16 0, .int .u16 0, .int .u16 0]), []⟩, ⟨.ptr [6] 0 0, [([6], some (.cells [.w 0, .w 0, .w 0, .w 0, .w 0, .w 0, .w 0, .w 0, .w 0, .w 0] 0))]⟩, ⟨.tup [], [([6], some (.cells [.w r_2.1, .w r_3.1, .w r_4.1, .w r_5.1, .w r_6.1, .w 0, .w 0, .w 0, .w 0, .w 0] 0))]⟩] <| Rk <| Sq <| Ro <| Rc 2 [⟨.fn 64 [], []⟩, vp [24] 0 0] ?_
    obtain ⟨r_7, hr_7, h⟩ := bind_s h
    have hc_7 := index_Source_Word_L r_6.2 r_7 hr_7
    refine Rt (some 43) .callv [] none [.fn 64 [], .ptr [24] 0 0] (.w r_7.1) [([24], some (.cells [.d (.sl (mY r_7.2.b)), .i r_7.2.e] 0))] (cut_callv (call_of (ws := []) (us := [([24], some (.cells [.d (.sl (mY r_7.2.b)), .i r_7.2.e] 0))]) (by kernel_rfl) (by kernel_rfl) hc_7 (by kernel_rfl) (by kernel_rfl))) <| Rk <| Sq <| Ro <| Rc 2 [⟨.fn 64 [], []⟩, vp [24] 0 0] ?_
    obtain ⟨r_8, hr_8, h⟩ := bind_s h
    have hc_8 := index_Source_Word_L r_7.2 r_8 hr_8
    refine Rt (some 46) .callv [] none [.fn 64 [], .ptr [24] 0 0] (.w r_8.1) [([24], some (.cells [.d (.sl (mY r_8.2.b)), .i r_8.2.e] 0))] (cut_callv (call_of (ws := []) (us := [([24], some (.cells [.d (.sl (mY r_8.2.b)), .i r_8.2.e] 0))]) (by kernel_rfl) (by kernel_rfl) hc_8 (by kernel_rfl) (by kernel_rfl))) <| Rc 2 [⟨.fn 64 [], []⟩, vp [24] 0 0] ?_
    obtain ⟨r_9, hr_9, h⟩ := bind_s h
    have hc_9 := index_Source_Word_L r_8.2 r_9 hr_9
    refine Rt (some 49) .callv [] none [.fn 64 [], .ptr [24] 0 0] (.w r_9.1) [([24], some (.cells [.d (.sl (mY r_9.2.b)), .i r_9.2.e] 0))] (cut_callv (call_of (ws := []) (us := [([24], some (.cells [.d (.sl (mY r_9.2.b)), .i r_9.2.e] 0))]) (by kernel_rfl) (by kernel_rfl) hc_9 (by kernel_rfl) (by kernel_rfl))) <| Rc 4 [vp [6] 0 5, ⟨.tup [], [([6], some (.cells [.w r_2.1, .w r_3.1, .w r_4.1, .w r_5.1, .w r_6.1, .w r_8.1, .w 0, .w 0, .w 0, .w 0] 0))]⟩, vp [6] 0 6, ⟨.tup [], [([6], some (.cells [.w r_2.1, .w r_3.1, .w r_4.1, .w r_5.1, .w r_6.1, .w r_8.1, .w r_9.1, .w 0, .w 0, .w 0] 0))]⟩] <| Rk <| Sq <| Ro <| Rc 2 [⟨.fn 64 [], []⟩, vp [24] 0 0] ?_
    obtain ⟨r_10, hr_10, h⟩ := bind_s h
    have hc_10 := index_Source_Word_L r_9.2 r_10 hr_10
    refine Rt (some 54) .callv [] none [.fn 64 [], .ptr [24] 0 0] (.w r_10.1) [([24], some (.cells [.d (.sl (mY r_10.2.b)), .i r_10.2.e] 0))] (cut_callv (call_of (ws := []) (us := [([24], some (.cells [.d (.sl (mY r_10.2.b)), .i r_10.2.e] 0))]) (by kernel_rfl) (by kernel_rfl) hc_10 (by kernel_rfl) (by kernel_rfl))) <| Rk <| Sq <| Ro <| Rc 2 [⟨.fn 64 [], []⟩, vp [24] 0 0] ?_
    obtain ⟨r_11, hr_11, h⟩ := bind_s h
    have hc_11 := index_Source_Word_L r_10.2 r_11 hr_11
    refine Rt (some 57) .callv [] none [.fn 64 [], .ptr [24] 0 0] (.w r_11.1) [([24], some (.cells [.d (.sl (mY r_11.2.b)), .i r_11.2.e] 0))] (cut_callv (call_of (ws := []) (us := [([24], some (.cells [.d (.sl (mY r_11.2.b)), .i r_11.2.e] 0))]) (by kernel_rfl) (by kernel_rfl) hc_11 (by kernel_rfl) (by kernel_rfl))) <| Rc 2 [⟨.fn 64 [], []⟩, vp [24] 0 0] ?_
    obtain ⟨r_12, hr_12, h⟩ := bind_s h
    have hc_12 := index_Source_Word_L r_11.2 r_12 hr_12
    refine Rt (some 60) .callv [] none [.fn 64 [], .ptr [24] 0 0] (.w r_12.1) [([24], some (.cells [.d (.sl (mY r_12.2.b)), .i r_12.2.e] 0))] (cut_callv (call_of (ws := []) (us := [([24], some (.cells [.d (.sl (mY r_12.2.b)), .i r_12.2.e] 0))]) (by kernel_rfl) (by kernel_rfl) hc_12 (by kernel_rfl) (by kernel_rfl))) <| Rc 2 [⟨.fn 64 [], []⟩, vp [24] 0 0] ?_
    obtain ⟨r_13, hr_13, h⟩ := bind_s h
    have hc_13 := index_Source_Word_L r_12.2 r_13 hr_13
    refine Rt (some 63) .callv [] none [.fn 64 [], .ptr [24] 0 0] (.w r_13.1) [([24], some (.cells [.d (.sl (mY r_13.2.b)), .i r_13.2.e] 0))] (cut_callv (call_of (ws := []) (us := [([24], some (.cells [.d (.sl (mY r_13.2.b)), .i r_13.2.e] 0))]) (by kernel_rfl) (by kernel_rfl) hc_13 (by kernel_rfl) (by kernel_rfl))) <| Rc 6 [vp [6] 0 7, ⟨.tup [], [([6], some (.cells [.w r_2.1, .w r_3.1, .w r_4.1, .w r_5.1, .w r_6.1, .w r_8.1, .w r_9.1, .w r_11.1, .w 0, .w 0] 0))]⟩, vp [6] 0 8, ⟨.tup [], [([6], some (.cells [.w r_2.1, .w r_3.1, .w r_4.1, .w r_5.1, .w r_6.1, .w r_8.1, .w r_9.1, .w r_11.1, .w r_12.1, .w 0] 0))]⟩, vp [6] 0 9, ⟨.tup [], [([6], some (.cells [.w r_2.1, .w r_3.1, .w r_4.1, .w r_5.1, .w r_6.1, .w r_8.1, .w r_9.1, .w r_11.1, .w r_12.1, .w r_13.1] 0))]⟩] <| Rk <| Sq <| Ro <| Rc 3 [⟨.d (.agg [.int .u16 r_2.1, .int .u16 r_3.1, .int .u16 r_4.1, .int .u16 r_5.1, .int .u16 r_6.1, .int .u16 r_8.1, .int .u16 r_9.1, .int .u16 r_11.1, .int .u16 r_12.1, .int .u16 r_13.1]), []⟩, ⟨.tup [], [([2], some (.cells [.w r_2.1, .w r_3.1, .w r_4.1, .w r_5.1, .w r_6.1, .w r_8.1, .w r_9.1, .w r_11.1, .w r_12.1, .w r_13.1] 0))]⟩, vi 0] ?_
    refine Rk <| Runs.ret ?_
    cases h
    exact Fq
theorem mz_first_L (b_ : (List Int)) (r : (Header × Int)) (h : mz_first b_ = some r) : L 72 [.d (.sl (mY b_))] = some (.tup [.d (Header.d r.1), .i r.2], [.d (.sl (mY b_))]) := by
 obtain ⟨p, ⟨hne, hf⟩, hr⟩ := mz_first_ok b_ r h
 obtain ⟨k, hk⟩ := run_of (F := F72) (args := [.d (.sl (mY b_))]) (ap := [.d (.sl (mY b_))]) (bx0 := updW (fun _ => none) []) rfl rfl (by kernel_rfl) ⟨p, ⟨hne, hf⟩, hr⟩
 exact lim_run (k := k) rfl hk
def mz_size_Q (h_ : Header) (r : (Int × Bool)) (p : Out × St) : Prop := (∀ i, p.1 ≠ .exit i) ∧ finF F73 [.d (Header.d h_)] p.2 = some (.tup [.i r.1, .b r.2], [.d (Header.d h_)])
theorem mz_size_ok (h_ : Header) (r : (Int × Bool)) (h : mz_size h_ = some r) : Runs L F73.body ⟨tmOf [.d (Header.d h_)] 0, updW (fun _ => none) []⟩ (mz_size_Q h_ r) := by
 unfold mz_size at h
 refine Sq <| Ro <| Rc 3 [⟨.ptr [1] 0 0, [([1], some (.cells [.w h_.last, .w h_.pages, .w h_.relocs, .w h_.paras, .w h_.min, .w h_.ss, .w h_.sp, .w h_.ip, .w h_.cs_, .w h_.table] 0))]⟩, vi 0, vb false] <| Rk <| Sq <| Ro <| Rc 5 [vp [1] 0 1, vw h_.pages, vi (IntKind.wrap .i64 h_.pages), vi (IntKind.wrap .i64 ((IntKind.wrap .i64 h_.pages) * 512)), vi (IntKind.wrap .i64 ((IntKind.wrap .i64 h_.pages) * 512))] <| Rk <| Sq <| Sq <| Ro <| Rc 3 [vp [1] 0 0, vw h_.last, vb (decide (h_.last > 0))] <| Rk ?_
 cases hb_1 : ((decide (h_.last > 0)) : Bool) with
 | true =>
  replace h := ite_t hb_1 h
  refine Ct <| Ro <| Rc 7 [vi (IntKind.wrap .i64 ((IntKind.wrap .i64 h_.pages) * 512)), vp [1] 0 0, vw h_.last, vi (IntKind.wrap .i64 h_.last), vi (IntKind.wrap .i64 ((IntKind.wrap .i64 h_.last) - 512)), vi (IntKind.wrap .i64 ((IntKind.wrap .i64 ((IntKind.wrap .i64 h_.pages) * 512)) + (IntKind.wrap .i64 ((IntKind.wrap .i64 h_.last) - 512)))), vi (IntKind.wrap .i64 ((IntKind.wrap .i64 ((IntKind.wrap .i64 h_.pages) * 512)) + (IntKind.wrap .i64 ((IntKind.wrap .i64 h_.last) - 512))))] <| Rk <| Sq <| Ro <| Rc 5 [vi (IntKind.wrap .i64 ((IntKind.wrap .i64 ((IntKind.wrap .i64 h_.pages) * 512)) + (IntKind.wrap .i64 ((IntKind.wrap .i64 h_.last) - 512)))), vp [1] 0 0, vw h_.last, vb (decide (h_.last < 512)), vb (decide (h_.last < 512))] ?_
  cases hb_2 : ((decide (h_.last < 512)) : Bool) with
  | true =>
   replace h := ite_t hb_2 h
   refine Rc 9 [vi (IntKind.wrap .i64 ((IntKind.wrap .i64 ((IntKind.wrap .i64 h_.pages) * 512)) + (IntKind.wrap .i64 ((IntKind.wrap .i64 h_.last) - 512)))), vp [1] 0 3, vw h_.paras, vi (IntKind.wrap .i64 h_.paras), vi (IntKind.wrap .i64 ((IntKind.wrap .i64 h_.paras) * 16)), vb (decide ((IntKind.wrap .i64 ((IntKind.wrap .i64 ((IntKind.wrap .i64 h_.pages) * 512)) + (IntKind.wrap .i64 ((IntKind.wrap .i64 h_.last) - 512)))) ≥ (IntKind.wrap .i64 ((IntKind.wrap .i64 h_.paras) * 16)))), vb (decide ((IntKind.wrap .i64 ((IntKind.wrap .i64 ((IntKind.wrap .i64 h_.pages) * 512)) + (IntKind.wrap .i64 ((IntKind.wrap .i64 h_.last) - 512)))) ≥ (IntKind.wrap .i64 ((IntKind.wrap .i64 h_.paras) * 16)))), vi (IntKind.wrap .i64 ((IntKind.wrap .i64 ((IntKind.wrap .i64 h_.pages) * 512)) + (IntKind.wrap .i64 ((IntKind.wrap .i64 h_.last) - 512)))), vb (decide ((IntKind.wrap .i64 ((IntKind.wrap .i64 ((IntKind.wrap .i64 h_.pages) * 512)) + (IntKind.wrap .i64 ((IntKind.wrap .i64 h_.last) - 512)))) ≥ (IntKind.wrap .i64 ((IntKind.wrap .i64 h_.paras) * 16))))] <| Rk <| Runs.ret ?_
   cases h
   exact Fq
  | false =>
   replace h := ite_f hb_2 h
   refine Rc 9 [vn, vn, vn, vn, vn, vn, vb false, vi (IntKind.wrap .i64 ((IntKind.wrap .i64 ((IntKind.wrap .i64 h_.pages) * 512)) + (IntKind.wrap .i64 ((IntKind.wrap .i64 h_.last) - 512)))), vb false] <| Rk <| Runs.ret ?_
   cases h
   exact Fq
 | false =>
  replace h := ite_f hb_1 h
  refine Cf <| Runs.skip <| kS_nrm <| Sq <| Ro <| Rc 5 [vi (IntKind.wrap .i64 ((IntKind.wrap .i64 h_.pages) * 512)), vp [1] 0 0, vw h_.last, vb (decide (h_.last < 512)), vb (decide (h_.last < 512))] ?_
  cases hb_3 : ((decide (h_.last < 512)) : Bool) with
  | true =>
   replace h := ite_t hb_3 h
   refine Rc 9 [vi (IntKind.wrap .i64 ((IntKind.wrap .i64 h_.pages) * 512)), vp [1] 0 3, vw h_.paras, vi (IntKind.wrap .i64 h_.paras), vi (IntKind.wrap .i64 ((IntKind.wrap .i64 h_.paras) * 16)), vb (decide ((IntKind.wrap .i64 ((IntKind.wrap .i64 h_.pages) * 512)) ≥ (IntKind.wrap .i64 ((IntKind.wrap .i64 h_.paras) * 16)))), vb (decide ((IntKind.wrap .i64 ((IntKind.wrap .i64 h_.pages) * 512)) ≥ (IntKind.wrap .i64 ((IntKind.wrap .i64 h_.paras) * 16)))), vi (IntKind.wrap .i64 ((IntKind.wrap .i64 h_.pages) * 512)), vb (decide ((IntKind.wrap .i64 ((IntKind.wrap .i64 h_.pages) * 512)) ≥ (IntKind.wrap .i64 ((IntKind.wrap .i64 h_.paras) * 16))))] <| Rk <| Runs.ret ?_
   cases h
   exact Fq
  | false =>
   replace h := ite_f hb_3 h
   refine Rc 9 [vn, vn, vn, vn, vn, vn, vb false, vi (IntKind.wrap .i64 ((IntKind.wrap .i64 h_.pages) * 512)), vb false] <| Rk <| Runs.ret ?_
   cases h
   exact Fq
theorem mz_size_L (h_ : Header) (r : (Int × Bool)) (h : mz_size h_ = some r) : L 73 [.d (Header.d h_)] = some (.tup [.i r.1, .b r.2], [.d (Header.d h_)]) := by
 obtain ⟨p, ⟨hne, hf⟩, hr⟩ := mz_size_ok h_ r h
 obtain ⟨k, hk⟩ := run_of (F := F73) (args := [.d (Header.d h_)]) (ap := [.d (Header.d h_)]) (bx0 := updW (fun _ => none) []) rfl rfl (by kernel_rfl) ⟨p, ⟨hne, hf⟩, hr⟩
 exact lim_run (k := k) rfl hk
def bits_Linear_Q (seg_ : Int) (off_ : Int) (r : Int) (p : Out × St) : Prop := (∀ i, p.1 ≠ .exit i) ∧ finF F105 [.w seg_, .w off_] p.2 = some (.u r, [.w seg_, .w off_])
theorem bits_Linear_ok (seg_ : Int) (off_ : Int) (r : Int) (h : bits_Linear seg_ off_ = some r) : Runs L F105.body ⟨tmOf [.w seg_, .w off_] 0, updW (fun _ => none) []⟩ (bits_Linear_Q seg_ off_ r) := by
 unfold bits_Linear at h
 refine Sq <| Ro <| Rc 1 [vu 0] <| Rk <| Sq <| Ro <| Rc 8 [vw seg_, vu (IntKind.wrap .u32 seg_), vu (shlI .u32 (IntKind.wrap .u32 seg_) 4), vw off_, vu (IntKind.wrap .u32 off_), vu (IntKind.wrap .u32 ((shlI .u32 (IntKind.wrap .u32 seg_) 4) + (IntKind.wrap .u32 off_))), vu (bitsOp .and .u32 (IntKind.wrap .u32 ((shlI .u32 (IntKind.wrap .u32 seg_) 4) + (IntKind.wrap .u32 off_))) 1048575), vu (bitsOp .and .u32 (IntKind.wrap .u32 ((shlI .u32 (IntKind.wrap .u32 seg_) 4) + (IntKind.wrap .u32 off_))) 1048575)] <| Rk <| Runs.ret ?_
 cases h
 exact Fq
theorem bits_Linear_L (seg_ : Int) (off_ : Int) (r : Int) (h : bits_Linear seg_ off_ = some r) : L 105 [.w seg_, .w off_] = some (.u r, [.w seg_, .w off_]) := by
 obtain ⟨p, ⟨hne, hf⟩, hr⟩ := bits_Linear_ok seg_ off_ r h
 obtain ⟨k, hk⟩ := run_of (F := F105) (args := [.w seg_, .w off_]) (ap := [.w seg_, .w off_]) (bx0 := updW (fun _ => none) []) rfl rfl (by kernel_rfl) ⟨p, ⟨hne, hf⟩, hr⟩
 exact lim_run (k := k) rfl hk
def math_bits_Len64_h10 (x0 : Int) (n2 : Int) : St := ⟨tab [(0, .d (.int .u64 x0)), (2, .i n2)], tabB []⟩
def math_bits_Len64_h18 (x0 : Int) (n2 : Int) : St := ⟨tab [(0, .d (.int .u64 x0)), (2, .i n2)], tabB []⟩
def math_bits_Len64_Q (x_ : Int) (r : Int) (p : Out × St) : Prop := (∀ i, p.1 ≠ .exit i) ∧ finF F170 [.d (.int .u64 x_)] p.2 = some (.i r, [.d (.int .u64 x_)])
theorem math_bits_Len64_j18_ok (x_ : Int) (x0 : Int) (n2 : Int) (r : Int) (h : math_bits_Len64_j18 x0 n2 = some r) : Runs L F170b18 (math_bits_Len64_h18 x0 n2) (math_bits_Len64_Q x_ r) := by
 unfold math_bits_Len64_j18 at h
 refine Sq <| Sq <| Ro <| Rc 2 [⟨.d (.int .u64 x0), []⟩, vb (decide (x0 ≥ 256))] <| Rk ?_
 cases hb_3 : ((decide (x0 ≥ 256)) : Bool) with
 | true =>
  replace h := ite_t hb_3 h
  refine Ct <| Sq <| Ro <| Rc 3 [⟨.d (.int .u64 x0), []⟩, ⟨.d (.int .u64 (shrI .u64 x0 8)), []⟩, ⟨.d (.int .u64 (shrI .u64 x0 8)), []⟩] <| Rk <| Ro <| Rc 3 [vi n2, vi (IntKind.wrap .i64 (n2 + 8)), vi (IntKind.wrap .i64 (n2 + 8))] <| Rk <| Sq <| Ro <| Rc 3 [vi (IntKind.wrap .i64 (n2 + 8)), ⟨.d (.int .u64 (shrI .u64 x0 8)), []⟩, vy (IntKind.wrap .u8 (shrI .u64 x0 8))] ?_
  obtain ⟨z_1, hz_1, h⟩ := bind_s h
  refine Rt (some 22) .indexS [] none [.d (.str ([0, 1, 2, 2, 3, 3, 3, 3, 4, 4, 4, 4, 4, 4, 4, 4, 5, 5, 5, 5, 5, 5, 5, 5, 5, 5, 5, 5, 5, 5, 5, 5, 6, 6, 6, 6, 6, 6, 6, 6, 6, 6, 6, 6, 6, 6, 6, 6, 6, 6, 6, 6, 6, 6, 6, 6, 6, 6, 6, 6, 6, 6, 6, 6, 7, 7, 7, 7, 7, 7, 7, 7, 7, 7, 7, 7, 7, 7, 7, 7, 7, 7, 7, 7, 7, 7, 7, 7, 7, 7, 7, 7, 7, 7, 7, 7, 7, 7, 7, 7, 7, 7, 7, 7, 7, 7, 7, 7, 7, 7, 7, 7, 7, 7, 7, 7, 7, 7, 7, 7, 7, 7, 7, 7, 7, 7, 7, 7, 8, 8, 8, 8, 8, 8, 8, 8, 8, 8, 8, 8, 8, 8, 8, 8, 8, 8, 8, 8, 8, 8, 8, 8, 8, 8, 8, 8, 8, 8, 8, 8, 8, 8, 8, 8, 8, 8, 8, 8, 8, 8, 8, 8, 8, 8, 8, 8, 8, 8, 8, 8, 8, 8, 8, 8, 8, 8, 8, 8, 8, 8, 8, 8, 8, 8, 8, 8, 8, 8, 8, 8, 8, 8, 8, 8, 8, 8, 8, 8, 8, 8, 8, 8, 8, 8, 8, 8, 8, 8, 8, 8, 8, 8, 8, 8, 8, 8, 8, 8, 8, 8, 8, 8, 8, 8, 8, 8, 8, 8, 8, 8, 8, 8, 8, 8, 8, 8, 8, 8, 8, 8, 8, 8, 8, 8, 8, 8] : List UInt8)), .y (IntKind.wrap .u8 (shrI .u64 x0 8))] (.y (z_1.toNat : Int)) [] (cut_ixS hz_1) <| Rc 3 [vi (IntKind.wrap .i64 (z_1.toNat : Int)), vi (IntKind.wrap .i64 ((IntKind.wrap .i64 (n2 + 8)) + (IntKind.wrap .i64 (z_1.toNat : Int)))), vi (IntKind.wrap .i64 ((IntKind.wrap .i64 (n2 + 8)) + (IntKind.wrap .i64 (z_1.toNat : Int))))] <| Rk <| Runs.ret ?_
  cases h
  exact Fq
 | false =>
  replace h := ite_f hb_3 h
  refine Cf <| Runs.skip <| kS_nrm <| Sq <| Ro <| Rc 3 [vi n2, ⟨.d (.int .u64 x0), []⟩, vy (IntKind.wrap .u8 x0)] ?_
  obtain ⟨z_2, hz_2, h⟩ := bind_s h
  refine Rt (some 22) .indexS [] none [.d (.str ([0, 1, 2, 2, 3, 3, 3, 3, 4, 4, 4, 4, 4, 4, 4, 4, 5, 5, 5, 5, 5, 5, 5, 5, 5, 5, 5, 5, 5, 5, 5, 5, 6, 6, 6, 6, 6, 6, 6, 6, 6, 6, 6, 6, 6, 6, 6, 6, 6, 6, 6, 6, 6, 6, 6, 6, 6, 6, 6, 6, 6, 6, 6, 6, 7, 7, 7, 7, 7, 7, 7, 7, 7, 7, 7, 7, 7, 7, 7, 7, 7, 7, 7, 7, 7, 7, 7, 7, 7, 7, 7, 7, 7, 7, 7, 7, 7, 7, 7, 7, 7, 7, 7, 7, 7, 7, 7, 7, 7, 7, 7, 7, 7, 7, 7, 7, 7, 7, 7, 7, 7, 7, 7, 7, 7, 7, 7, 7, 8, 8, 8, 8, 8, 8, 8, 8, 8, 8, 8, 8, 8, 8, 8, 8, 8, 8, 8, 8, 8, 8, 8, 8, 8, 8, 8, 8, 8, 8, 8, 8, 8, 8, 8, 8, 8, 8, 8, 8, 8, 8, 8, 8, 8, 8, 8, 8, 8, 8, 8, 8, 8, 8, 8, 8, 8, 8, 8, 8, 8, 8, 8, 8, 8, 8, 8, 8, 8, 8, 8, 8, 8, 8, 8, 8, 8, 8, 8, 8, 8, 8, 8, 8, 8, 8, 8, 8, 8, 8, 8, 8, 8, 8, 8, 8, 8, 8, 8, 8, 8, 8, 8, 8, 8, 8, 8, 8, 8, 8, 8, 8, 8, 8, 8, 8, 8, 8, 8, 8, 8, 8, 8, 8, 8, 8, 8, 8] : List UInt8)), .y (IntKind.wrap .u8 x0)] (.y (z_2.toNat : Int)) [] (cut_ixS hz_2) <| Rc 3 [vi (IntKind.wrap .i64 (z_2.toNat : Int)), vi (IntKind.wrap .i64 (n2 + (IntKind.wrap .i64 (z_2.toNat : Int)))), vi (IntKind.wrap .i64 (n2 + (IntKind.wrap .i64 (z_2.toNat : Int))))] <| Rk <| Runs.ret ?_
  cases h
  exact Fq
theorem math_bits_Len64_j10_ok (x_ : Int) (x0 : Int) (n2 : Int) (r : Int) (h : math_bits_Len64_j10 x0 n2 = some r) : Runs L F170b10 (math_bits_Len64_h10 x0 n2) (math_bits_Len64_Q x_ r) := by
 unfold math_bits_Len64_j10 at h
 refine Sq <| Sq <| Ro <| Rc 2 [⟨.d (.int .u64 x0), []⟩, vb (decide (x0 ≥ 65536))] <| Rk ?_
 cases hb_2 : ((decide (x0 ≥ 65536)) : Bool) with
 | true =>
  replace h := ite_t hb_2 h
  refine Ct <| Sq <| Ro <| Rc 3 [⟨.d (.int .u64 x0), []⟩, ⟨.d (.int .u64 (shrI .u64 x0 16)), []⟩, ⟨.d (.int .u64 (shrI .u64 x0 16)), []⟩] <| Rk <| Ro <| Rc 3 [vi n2, vi (IntKind.wrap .i64 (n2 + 16)), vi (IntKind.wrap .i64 (n2 + 16))] <| Rk <| Runs.canon (math_bits_Len64_h18 (shrI .u64 x0 16) (IntKind.wrap .i64 (n2 + 16))) Cz ?_
  exact math_bits_Len64_j18_ok x_ (shrI .u64 x0 16) (IntKind.wrap .i64 (n2 + 16)) r h
 | false =>
  replace h := ite_f hb_2 h
  refine Cf <| Runs.skip <| kS_nrm <| Runs.canon (math_bits_Len64_h18 x0 n2) Cz ?_
  exact math_bits_Len64_j18_ok x_ x0 n2 r h
theorem math_bits_Len64_ok (x_ : Int) (r : Int) (h : math_bits_Len64 x_ = some r) : Runs L F170.body ⟨tmOf [.d (.int .u64 x_)] 0, updW (fun _ => none) []⟩ (math_bits_Len64_Q x_ r) := by
 unfold math_bits_Len64 at h
 refine Sq <| Ro <| Rc 1 [vi 0] <| Rk <| Sq <| Sq <| Ro <| Rc 2 [⟨.d (.int .u64 x_), []⟩, vb (decide (x_ ≥ 4294967296))] <| Rk ?_
 cases hb_1 : ((decide (x_ ≥ 4294967296)) : Bool) with
 | true =>
  replace h := ite_t hb_1 h
  refine Ct <| Sq <| Ro <| Rc 3 [⟨.d (.int .u64 x_), []⟩, ⟨.d (.int .u64 (shrI .u64 x_ 32)), []⟩, ⟨.d (.int .u64 (shrI .u64 x_ 32)), []⟩] <| Rk <| Ro <| Rc 1 [vi 32] <| Rk <| Runs.canon (math_bits_Len64_h10 (shrI .u64 x_ 32) 32) Cz ?_
  exact math_bits_Len64_j10_ok x_ (shrI .u64 x_ 32) 32 r h
 | false =>
  replace h := ite_f hb_1 h
  refine Cf <| Runs.skip <| kS_nrm <| Runs.canon (math_bits_Len64_h10 x_ 0) Cz ?_
  exact math_bits_Len64_j10_ok x_ x_ 0 r h
theorem math_bits_Len64_L (x_ : Int) (r : Int) (h : math_bits_Len64 x_ = some r) : L 170 [.d (.int .u64 x_)] = some (.i r, [.d (.int .u64 x_)]) := by
 obtain ⟨p, ⟨hne, hf⟩, hr⟩ := math_bits_Len64_ok x_ r h
 obtain ⟨k, hk⟩ := run_of (F := F170) (args := [.d (.int .u64 x_)]) (ap := [.d (.int .u64 x_)]) (bx0 := updW (fun _ => none) []) rfl rfl (by kernel_rfl) ⟨p, ⟨hne, hf⟩, hr⟩
 exact lim_run (k := k) rfl hk
def math_bits_Len_Q (x_ : Int) (r : Int) (p : Out × St) : Prop := (∀ i, p.1 ≠ .exit i) ∧ finF F136 [.d (.int .u64 x_)] p.2 = some (.i r, [.d (.int .u64 x_)])
theorem math_bits_Len_ok (x_ : Int) (r : Int) (h : math_bits_Len x_ = some r) : Runs L F136.body ⟨tmOf [.d (.int .u64 x_)] 0, updW (fun _ => none) []⟩ (math_bits_Len_Q x_ r) := by
 unfold math_bits_Len at h
 refine Sq <| Ro <| Rc 1 [vi 0] <| Rk <| Sq <| Cf <| Runs.skip <| kS_nrm <| Sq <| Ro <| Rc 1 [⟨.d (.int .u64 x_), []⟩] ?_
 obtain ⟨r_1, hr_1, h⟩ := bind_s h
 have hc_1 := math_bits_Len64_L x_ r_1 hr_1
 refine Rt (some 7) (.callf 170) [] none [.d (.int .u64 x_)] (.i r_1) [] (cc hc_1) <| Rc 1 [vi r_1] <| Rk <| Runs.ret ?_
 cases h
 exact Fq
theorem math_bits_Len_L (x_ : Int) (r : Int) (h : math_bits_Len x_ = some r) : L 136 [.d (.int .u64 x_)] = some (.i r, [.d (.int .u64 x_)]) := by
 obtain ⟨p, ⟨hne, hf⟩, hr⟩ := math_bits_Len_ok x_ r h
 obtain ⟨k, hk⟩ := run_of (F := F136) (args := [.d (.int .u64 x_)]) (ap := [.d (.int .u64 x_)]) (bx0 := updW (fun _ => none) []) rfl rfl (by kernel_rfl) ⟨p, ⟨hne, hf⟩, hr⟩
 exact lim_run (k := k) rfl hk
def cmp_isNaN_int_Q (x_ : Int) (r : Bool) (p : Out × St) : Prop := (∀ i, p.1 ≠ .exit i) ∧ finF F183 [.i x_] p.2 = some (.b r, [.i x_])
theorem cmp_isNaN_int_ok (x_ : Int) (r : Bool) (h : cmp_isNaN_int x_ = some r) : Runs L F183.body ⟨tmOf [.i x_] 0, updW (fun _ => none) []⟩ (cmp_isNaN_int_Q x_ r) := by
 unfold cmp_isNaN_int at h
 refine Sq <| Ro <| Rc 1 [vb false] <| Rk <| Sq <| Ro <| Rc 4 [vi x_, vi x_, vb (x_ != x_), vb (x_ != x_)] <| Rk <| Runs.ret ?_
 cases h
 exact Fq
theorem cmp_isNaN_int_L (x_ : Int) (r : Bool) (h : cmp_isNaN_int x_ = some r) : L 183 [.i x_] = some (.b r, [.i x_]) := by
 obtain ⟨p, ⟨hne, hf⟩, hr⟩ := cmp_isNaN_int_ok x_ r h
 obtain ⟨k, hk⟩ := run_of (F := F183) (args := [.i x_]) (ap := [.i x_]) (bx0 := updW (fun _ => none) []) rfl rfl (by kernel_rfl) ⟨p, ⟨hne, hf⟩, hr⟩
 exact lim_run (k := k) rfl hk
def cmp_Less_int_Q (x_ : Int) (y_ : Int) (r : Bool) (p : Out × St) : Prop := (∀ i, p.1 ≠ .exit i) ∧ finF F166 [.i x_, .i y_] p.2 = some (.b r, [.i x_, .i y_])
theorem cmp_Less_int_ok (x_ : Int) (y_ : Int) (r : Bool) (h : cmp_Less_int x_ y_ = some r) : Runs L F166.body ⟨tmOf [.i x_, .i y_] 0, updW (fun _ => none) []⟩ (cmp_Less_int_Q x_ y_ r) := by
 unfold cmp_Less_int at h
 refine Sq <| Ro <| Rc 1 [vb false] <| Rk <| Sq <| Ro <| Rc 1 [vi x_] ?_
 obtain ⟨r_1, hr_1, h⟩ := bind_s h
 have hc_1 := cmp_isNaN_int_L x_ r_1 hr_1
 refine Rt (some 6) (.callf 183) [] none [.i x_] (.b r_1) [] (cc hc_1) <| Rc 1 [vb r_1] ?_
 cases hb_1 : (r_1 : Bool) with
 | true =>
  replace h := ite_t hb_1 h
  refine Rc 1 [vi y_] ?_
  obtain ⟨r_2, hr_2, h⟩ := bind_s h
  have hc_2 := cmp_isNaN_int_L y_ r_2 hr_2
  refine Rt (some 9) (.callf 183) [] none [.i y_] (.b r_2) [] (cc hc_2) <| Rc 3 [vb (!r_2), vb (!r_2), vb (!r_2)] ?_
  cases hb_2 : ((!r_2) : Bool) with
  | true =>
   replace h := ite_t hb_2 h
   refine Rc 5 [vn, vn, vn, vb true, vb true] <| Rk <| Runs.ret ?_
   cases h
   exact Fq
  | false =>
   replace h := ite_f hb_2 h
   refine Rc 5 [vi x_, vi y_, vb (decide (x_ < y_)), vb (decide (x_ < y_)), vb (decide (x_ < y_))] <| Rk <| Runs.ret ?_
   cases h
   exact Fq
 | false =>
  replace h := ite_f hb_1 h
  refine Rc 10 [vn, vn, vn, vb false, vb false, vi x_, vi y_, vb (decide (x_ < y_)), vb (decide (x_ < y_)), vb (decide (x_ < y_))] <| Rk <| Runs.ret ?_
  cases h
  exact Fq
theorem cmp_Less_int_L (x_ : Int) (y_ : Int) (r : Bool) (h : cmp_Less_int x_ y_ = some r) : L 166 [.i x_, .i y_] = some (.b r, [.i x_, .i y_]) := by
 obtain ⟨p, ⟨hne, hf⟩, hr⟩ := cmp_Less_int_ok x_ y_ r h
 obtain ⟨k, hk⟩ := run_of (F := F166) (args := [.i x_, .i y_]) (ap := [.i x_, .i y_]) (bx0 := updW (fun _ => none) []) rfl rfl (by kernel_rfl) ⟨p, ⟨hne, hf⟩, hr⟩
 exact lim_run (k := k) rfl hk
def slices_insertionSortOrdered_int_h3 (data_ : (List Int)) (w_data_ : (List Int)) (a1 : Int) (b2 : Int) (i6 : Int) : St := ⟨tab [(0, .ref [0] 0 0 (List.map (D.int .i64) w_data_).length 1), (1, .i a1), (2, .i b2), (6, .i i6)], tabB [([0], some (.arr (List.map (D.int .i64) w_data_) 0 false))]⟩
def slices_insertionSortOrdered_int_h15n (data_ : (List Int)) (w_data_ : (List Int)) (a1 : Int) (b2 : Int) (i6 : Int) (j7 : Int) (n_0 : Nat) : St := ⟨tab [(0, .ref [0] 0 0 n_0 1), (1, .i a1), (2, .i b2), (6, .i i6), (7, .i j7)], tabB [([0], some (.arr (List.map (D.int .i64) w_data_) 0 false))]⟩
def slices_insertionSortOrdered_int_h15 (data_ : (List Int)) (w_data_ : (List Int)) (a1 : Int) (b2 : Int) (i6 : Int) (j7 : Int) : St := slices_insertionSortOrdered_int_h15n data_ w_data_ a1 b2 i6 j7 (List.map (D.int .i64) w_data_).length
def slices_insertionSortOrdered_int_h26 (data_ : (List Int)) (w_data_ : (List Int)) (a1 : Int) (b2 : Int) (i6 : Int) : St := ⟨tab [(0, .ref [0] 0 0 (List.map (D.int .i64) w_data_).length 1), (1, .i a1), (2, .i b2), (6, .i i6)], tabB [([0], some (.arr (List.map (D.int .i64) w_data_) 0 false))]⟩
def slices_insertionSortOrdered_int_h27 (data_ : (List Int)) (w_data_ : (List Int)) : St := ⟨tab [], tabB [([0], some (.arr (List.map (D.int .i64) w_data_) 0 false))]⟩
def slices_insertionSortOrdered_int_Q (data_ : (List Int)) (a_ : Int) (b_ : Int) (r : (List Int)) (p : Out × St) : Prop := (∀ i, p.1 ≠ .exit i) ∧ finF F160 [.ref [0] 0 0 (List.map (D.int .i64) data_).length 1, .i a_, .i b_] p.2 = some (.tup [], [.arr false 1 (List.map (D.int .i64) r), .i a_, .i b_])
def slices_insertionSortOrdered_int_P15 (data_ : (List Int)) (a_ : Int) (b_ : Int) (data_ : (List Int)) (a1 : Int) (b2 : Int) (i6 : Int) (e : (List Int)) (p : Out × St) : Prop := p.1 = .exit 2 ∧ ∃ g : Unit, Canon [] [0, 1, 2, 6] [[0]] p.2 (slices_insertionSortOrdered_int_h26 data_ e a1 b2 i6)
def slices_insertionSortOrdered_int_P3 (data_ : (List Int)) (a_ : Int) (b_ : Int) (data_ : (List Int)) (a1 : Int) (b2 : Int) (e : (List Int)) (p : Out × St) : Prop := p.1 = .exit 0 ∧ ∃ g : Unit, Canon [] [] [[0]] p.2 (slices_insertionSortOrdered_int_h27 data_ e)
theorem slices_insertionSortOrdered_int_l15_ok (data_ : (List Int)) (a_ : Int) (b_ : Int) (data_ : (List Int)) (w_data_ : (List Int)) (a1 : Int) (b2 : Int) (i6 : Int) (j7 : Int) (r : (Lp ((List Int) × Int) (List Int))) (h : slices_insertionSortOrdered_int_l15 data_ w_data_ a1 b2 i6 j7 = some r) : Runs L F160l15 (slices_insertionSortOrdered_int_h15 data_ w_data_ a1 b2 i6 j7) (LQ [] [0, 1, 2, 6, 7] [[0]] (fun (x : ((List Int) × Int)) (g : Unit) => slices_insertionSortOrdered_int_h15 data_ x.1 a1 b2 i6 x.2) (slices_insertionSortOrdered_int_P15 data_ a_ b_ data_ a1 b2 i6) r) := by
 unfold slices_insertionSortOrdered_int_l15 at h
 refine Sq <| Sq <| Ro <| Rc 4 [vi j7, vi a1, vb (decide (j7 > a1)), vb (decide (j7 > a1))] ?_
 cases hb_2 : ((decide (j7 > a1)) : Bool) with
 | true =>
  replace h := ite_t hb_2 h
  refine Rc 2 [⟨.ref [0] 0 0 (List.map (D.int .i64) w_data_).length 1, []⟩, vi j7] ?_
  obtain ⟨z_1, hz_1, h⟩ := bind_s h
  refine Rt (some 22) (.iaddrS 1) [] none [.ref [0] 0 0 (List.map (D.int .i64) w_data_).length 1, .i j7] (.eref [0] 0 (0 + (j7).toNat) 0) [] (cut_atR (e := (D.int .i64)) (l := w_data_) hz_1 rfl) <| Rt (some 23) (.load none) [] none [.eref [0] 0 (0 + (j7).toNat) 0] (.i z_1) [] (cut_loadR (e := (D.int .i64)) (l := w_data_) (fz := false) (y := z_1) (by kernel_rfl) hz_1 (by kernel_rfl) (by kernel_rfl)) <| Rc 3 [⟨.ref [0] 0 0 (List.map (D.int .i64) w_data_).length 1, []⟩, vi j7, vi (IntKind.wrap .i64 (j7 - 1))] ?_
  obtain ⟨z_2, hz_2, h⟩ := bind_s h
  refine Rt (some 27) (.iaddrS 1) [] none [.ref [0] 0 0 (List.map (D.int .i64) w_data_).length 1, .i (IntKind.wrap .i64 (j7 - 1))] (.eref [0] 0 (0 + ((IntKind.wrap .i64 (j7 - 1))).toNat) 0) [] (cut_atR (e := (D.int .i64)) (l := w_data_) hz_2 rfl) <| Rt (some 28) (.load none) [] none [.eref [0] 0 (0 + ((IntKind.wrap .i64 (j7 - 1))).toNat) 0] (.i z_2) [] (cut_loadR (e := (D.int .i64)) (l := w_data_) (fz := false) (y := z_2) (by kernel_rfl) hz_2 (by kernel_rfl) (by kernel_rfl)) ?_
  obtain ⟨r_1, hr_1, h⟩ := bind_s h
  have hc_1 := cmp_Less_int_L z_1 z_2 r_1 hr_1
  refine Rt (some 29) (.callf 166) [] none [.i z_1, .i z_2] (.b r_1) [] (cc hc_1) <| Rc 1 [vb r_1] <| Rk ?_
  cases hb_3 : (r_1 : Bool) with
  | true =>
   replace h := ite_t hb_3 h
   refine Ct <| Runs.skip <| kS_nrm <| Sq <| Runs.block <| Ro <| Rc 8 [⟨.ref [0] 0 0 (List.map (D.int .i64) w_data_).length 1, []⟩, vi j7, ⟨.ref [0] 0 0 (List.map (D.int .i64) w_data_).length 1, []⟩, vi j7, vi (IntKind.wrap .i64 (j7 - 1)), ⟨.ref [0] 0 0 (List.map (D.int .i64) w_data_).length 1, []⟩, vi j7, vi (IntKind.wrap .i64 (j7 - 1))] ?_
   obtain ⟨z_3, hz_3, h⟩ := bind_s h
   refine Rt (some 41) (.iaddrS 1) [] none [.ref [0] 0 0 (List.map (D.int .i64) w_data_).length 1, .i (IntKind.wrap .i64 (j7 - 1))] (.eref [0] 0 (0 + ((IntKind.wrap .i64 (j7 - 1))).toNat) 0) [] (cut_atR (e := (D.int .i64)) (l := w_data_) hz_3 rfl) <| Rt (some 42) (.load none) [] none [.eref [0] 0 (0 + ((IntKind.wrap .i64 (j7 - 1))).toNat) 0] (.i z_3) [] (cut_loadR (e := (D.int .i64)) (l := w_data_) (fz := false) (y := z_3) (by kernel_rfl) hz_3 (by kernel_rfl) (by kernel_rfl)) <| Rc 2 [⟨.ref [0] 0 0 (List.map (D.int .i64) w_data_).length 1, []⟩, vi j7] ?_
   obtain ⟨z_4, hz_4, h⟩ := bind_s h
   refine Rt (some 45) (.iaddrS 1) [] none [.ref [0] 0 0 (List.map (D.int .i64) w_data_).length 1, .i j7] (.eref [0] 0 (0 + (j7).toNat) 0) [] (cut_atR (e := (D.int .i64)) (l := w_data_) hz_4 rfl) <| Rt (some 46) (.load none) [] none [.eref [0] 0 (0 + (j7).toNat) 0] (.i z_4) [] (cut_loadR (e := (D.int .i64)) (l := w_data_) (fz := false) (y := z_4) (by kernel_rfl) hz_4 (by kernel_rfl) (by kernel_rfl)) ?_
   obtain ⟨z_5, hz_5, h⟩ := bind_s h
   refine Rt (some 47) (.iaddrS 1) [] none [.ref [0] 0 0 (List.map (D.int .i64) w_data_).length 1, .i j7] (.eref [0] 0 (0 + (j7).toNat) 0) [] (cut_atR (e := (D.int .i64)) (l := w_data_) hz_5 rfl) <| Rt none (.store 1) [] none [.eref [0] 0 (0 + (j7).toNat) 0, .i z_3] (.tup []) [([0], some (.arr (List.map (D.int .i64) (List.set w_data_ (j7).toNat z_3)) 0 false))] (cut_setR (e := (D.int .i64)) (l := w_data_) (y := z_5) (y' := z_3) (ds := [.int .i64 z_3]) (by kernel_rfl) hz_5 (by kernel_rfl) (by kernel_rfl) (by kernel_rfl) (by kernel_rfl)) ?_
   obtain ⟨z_6, hz_6, h⟩ := bind_s h
   refine Rt (some 48) (.iaddrS 1) [] none [.ref [0] 0 0 (List.map (D.int .i64) w_data_).length 1, .i (IntKind.wrap .i64 (j7 - 1))] (.eref [0] 0 (0 + ((IntKind.wrap .i64 (j7 - 1))).toNat) 0) [] (cut_atR (e := (D.int .i64)) (l := (List.set w_data_ (j7).toNat z_3)) hz_6 (by simp only [List.length_map, List.length_set, cpy_length] : (List.map (D.int .i64) w_data_).length = (List.map (D.int .i64) (List.set w_data_ (j7).toNat z_3)).length)) <| Rt none (.store 1) [] none [.eref [0] 0 (0 + ((IntKind.wrap .i64 (j7 - 1))).toNat) 0, .i z_4] (.tup []) [([0], some (.arr (List.map (D.int .i64) (List.set (List.set w_data_ (j7).toNat z_3) ((IntKind.wrap .i64 (j7 - 1))).toNat z_4)) 0 false))] (cut_setR (e := (D.int .i64)) (l := (List.set w_data_ (j7).toNat z_3)) (y := z_6) (y' := z_4) (ds := [.int .i64 z_4]) (by kernel_rfl) hz_6 (by kernel_rfl) (by kernel_rfl) (by kernel_rfl) (by kernel_rfl)) <| Rd <| kB_nrm <| kS_nrm <| Ro <| Rc 3 [vi j7, vi (IntKind.wrap .i64 (j7 - 1)), vi (IntKind.wrap .i64 (j7 - 1))] <| Rd ?_
   obtain rfl := sj h
   exact ⟨rfl, (), (Canon.len (f := fun n => slices_insertionSortOrdered_int_h15n data_ (List.set (List.set w_data_ (j7).toNat z_3) ((IntKind.wrap .i64 (j7 - 1))).toNat z_4) a1 b2 i6 (IntKind.wrap .i64 (j7 - 1)) n) ((by simp only [List.length_map, List.length_set, cpy_length] : (List.map (D.int .i64) w_data_).length = (List.map (D.int .i64) (List.set (List.set w_data_ (j7).toNat z_3) ((IntKind.wrap .i64 (j7 - 1))).toNat z_4)).length)).symm Cz)⟩
  | false =>
   replace h := ite_f hb_3 h
   refine Cf <| Runs.exit <| kS_exit ?_
   obtain rfl := sj h
   exact ⟨nofun, rfl, (), Cz⟩
 | false =>
  replace h := ite_f hb_2 h
  refine Rc 11 [vn, vn, vn, vn, vn, vn, vn, vn, vn, vn, vb false] <| Rk <| Cf <| Runs.exit <| kS_exit ?_
  obtain rfl := sj h
  exact ⟨nofun, rfl, (), Cz⟩
theorem slices_insertionSortOrdered_int_l3_ok (data_ : (List Int)) (a_ : Int) (b_ : Int) (data_ : (List Int)) (w_data_ : (List Int)) (a1 : Int) (b2 : Int) (i6 : Int) (r : (Lp ((List Int) × Int) (List Int))) (h : slices_insertionSortOrdered_int_l3 data_ w_data_ a1 b2 i6 = some r) : Runs L F160l3 (slices_insertionSortOrdered_int_h3 data_ w_data_ a1 b2 i6) (LQ [] [0, 1, 2, 6] [[0]] (fun (x : ((List Int) × Int)) (g : Unit) => slices_insertionSortOrdered_int_h3 data_ x.1 a1 b2 x.2) (slices_insertionSortOrdered_int_P3 data_ a_ b_ data_ a1 b2) r) := by
 unfold slices_insertionSortOrdered_int_l3 at h
 refine Sq <| Sq <| Ro <| Rc 3 [vi i6, vi b2, vb (decide (i6 < b2))] <| Rk ?_
 cases hb_1 : ((decide (i6 < b2)) : Bool) with
 | true =>
  replace h := ite_t hb_1 h
  refine Ct <| Runs.skip <| kS_nrm <| Sq <| Runs.block <| Sq <| Ro <| Rc 2 [vi i6, vi i6] <| Rk <| Runs.block ?_
  obtain ⟨e_1, he_1, h⟩ := bind_s h
  refine Runs.loop (fun x : ((List Int) × Int) => slices_insertionSortOrdered_int_l15 data_ x.1 a1 b2 i6 x.2) (fun (x : ((List Int) × Int)) (g : Unit) => slices_insertionSortOrdered_int_h15 data_ x.1 a1 b2 i6 x.2) (slices_insertionSortOrdered_int_P15 data_ a_ b_ data_ a1 b2 i6) (fun x g r hr => slices_insertionSortOrdered_int_l15_ok data_ a_ b_ data_ x.1 a1 b2 i6 x.2  r hr) () he_1 Cz ?_
  rintro ⟨o, s⟩ hp
  obtain ⟨ho, g_1, hk_1⟩ := hp
  have ho' : o = .exit 2 := ho
  subst ho'
  refine kB_hit <| kB_nrm <| kS_nrm <| Runs.canon _ hk_1 <| Ro <| Rc 3 [vi i6, vi (IntKind.wrap .i64 (i6 + 1)), vi (IntKind.wrap .i64 (i6 + 1))] <| Rd ?_
  obtain rfl := sj h
  exact ⟨rfl, (), Cz⟩
 | false =>
  replace h := ite_f hb_1 h
  refine Cf <| Runs.exit <| kS_exit ?_
  obtain rfl := sj h
  exact ⟨nofun, rfl, (), Cz⟩
theorem slices_insertionSortOrdered_int_ok (data_ : (List Int)) (a_ : Int) (b_ : Int) (r : (List Int)) (h : slices_insertionSortOrdered_int data_ a_ b_ = some r) : Runs L F160.body ⟨tmOf [.ref [0] 0 0 (List.map (D.int .i64) data_).length 1, .i a_, .i b_] 0, updW (fun _ => none) [([0], some (.arr (List.map (D.int .i64) data_) 0 false))]⟩ (slices_insertionSortOrdered_int_Q data_ a_ b_ r) := by
 unfold slices_insertionSortOrdered_int at h
 refine Sq <| Sq <| Sq <| Ro <| Rc 3 [vi a_, vi (IntKind.wrap .i64 (a_ + 1)), vi (IntKind.wrap .i64 (a_ + 1))] <| Rk <| Runs.block ?_
 obtain ⟨e_1, he_1, h⟩ := bind_s h
 refine Runs.loop (fun x : ((List Int) × Int) => slices_insertionSortOrdered_int_l3 data_ x.1 a_ b_ x.2) (fun (x : ((List Int) × Int)) (g : Unit) => slices_insertionSortOrdered_int_h3 data_ x.1 a_ b_ x.2) (slices_insertionSortOrdered_int_P3 data_ a_ b_ data_ a_ b_) (fun x g r hr => slices_insertionSortOrdered_int_l3_ok data_ a_ b_ data_ x.1 a_ b_ x.2  r hr) () he_1 Cz ?_
 rintro ⟨o, s⟩ hp
 obtain ⟨ho, g_1, hk_1⟩ := hp
 have ho' : o = .exit 0 := ho
 subst ho'
 refine kB_hit <| kS_nrm <| Runs.canon _ hk_1 <| Runs.skip <| kS_nrm <| Runs.gnil ?_
 try dsimp only at h
 by_cases hlw0 : e_1.length = data_.length
 case neg => rw [if_neg hlw0] at h; cases h
 rw [if_pos hlw0] at h
 obtain rfl := sj h
 exact ⟨Out.nrm_ne, (fin_ofL (rs := []) (by kernel_rfl) (map_cons_ (lendP_of (fz := false) (es := List.map (D.int .i64) e_1) (by kernel_rfl) (by rw [List.length_map, List.length_map, hlw0] : (List.map (D.int .i64) data_).length = (List.map (D.int .i64) e_1).length) (by decide)) (map_cons_ rfl (map_cons_ rfl map_nil_))) (by kernel_rfl) outs_nil (gives_cons (give_lref (fz := false) (es := List.map (D.int .i64) e_1) (by kernel_rfl) (by rw [List.length_map, List.length_map, hlw0] : (List.map (D.int .i64) data_).length = (List.map (D.int .i64) e_1).length) (by kernel_rfl) (by decide)) (gives_cons (give_same (by kernel_rfl)) (gives_cons (give_same (by kernel_rfl)) gives_nil))))⟩
theorem slices_insertionSortOrdered_int_L (data_ : (List Int)) (a_ : Int) (b_ : Int) (r : (List Int)) (h : slices_insertionSortOrdered_int data_ a_ b_ = some r) : L 160 [.arr false 1 (List.map (D.int .i64) data_), .i a_, .i b_] = some (.tup [], [.arr false 1 (List.map (D.int .i64) r), .i a_, .i b_]) := by
 obtain ⟨p, ⟨hne, hf⟩, hr⟩ := slices_insertionSortOrdered_int_ok data_ a_ b_ r h
 obtain ⟨k, hk⟩ := run_of (F := F160) (args := [.arr false 1 (List.map (D.int .i64) data_), .i a_, .i b_]) (ap := [.ref [0] 0 0 (List.map (D.int .i64) data_).length 1, .i a_, .i b_]) (bx0 := updW (fun _ => none) [([0], some (.arr (List.map (D.int .i64) data_) 0 false))]) rfl rfl (by kernel_rfl) ⟨p, ⟨hne, hf⟩, hr⟩
 exact lim_run (k := k) rfl hk
def slices_siftDownOrdered_int_h3n (data_ : (List Int)) (w_data_ : (List Int)) (hi2 : Int) (first3 : Int) (root8 : Int) (n_0 : Nat) : St := ⟨tab [(0, .ref [0] 0 0 n_0 1), (2, .i hi2), (3, .i first3), (8, .i root8)], tabB [([0], some (.arr (List.map (D.int .i64) w_data_) 0 false))]⟩
def slices_siftDownOrdered_int_h3 (data_ : (List Int)) (w_data_ : (List Int)) (hi2 : Int) (first3 : Int) (root8 : Int) : St := slices_siftDownOrdered_int_h3n data_ w_data_ hi2 first3 root8 (List.map (D.int .i64) w_data_).length
def slices_siftDownOrdered_int_h28 (data_ : (List Int)) (w_data_ : (List Int)) : St := ⟨tab [], tabB [([0], some (.arr (List.map (D.int .i64) w_data_) 0 false))]⟩
def slices_siftDownOrdered_int_h19 (data_ : (List Int)) (w_data_ : (List Int)) (hi2 : Int) (first3 : Int) (root8 : Int) (child9 : Int) : St := ⟨tab [(0, .ref [0] 0 0 (List.map (D.int .i64) w_data_).length 1), (2, .i hi2), (3, .i first3), (8, .i root8), (9, .i child9)], tabB [([0], some (.arr (List.map (D.int .i64) w_data_) 0 false))]⟩
def slices_siftDownOrdered_int_Q (data_ : (List Int)) (lo_ : Int) (hi_ : Int) (first_ : Int) (r : (List Int)) (p : Out × St) : Prop := (∀ i, p.1 ≠ .exit i) ∧ finF F178 [.ref [0] 0 0 (List.map (D.int .i64) data_).length 1, .i lo_, .i hi_, .i first_] p.2 = some (.tup [], [.arr false 1 (List.map (D.int .i64) r), .i lo_, .i hi_, .i first_])
def slices_siftDownOrdered_int_P3 (data_ : (List Int)) (lo_ : Int) (hi_ : Int) (first_ : Int) (data_ : (List Int)) (hi2 : Int) (first3 : Int) (e : ((List Int) ⊕ (List Int))) (p : Out × St) : Prop := match e with
 | .inl x => p.1 = .exit 0 ∧ ∃ g : Unit, Canon [] [] [[0]] p.2 (slices_siftDownOrdered_int_h28 data_ x)
 | .inr x => p.1 = .ret ∧ finF F178 [.ref [0] 0 0 (List.map (D.int .i64) data_).length 1, .i lo_, .i hi_, .i first_] p.2 = some (.tup [], [.arr false 1 (List.map (D.int .i64) x), .i lo_, .i hi_, .i first_])
theorem slices_siftDownOrdered_int_j19_ok (data_ : (List Int)) (lo_ : Int) (hi_ : Int) (first_ : Int) (data_ : (List Int)) (w_data_ : (List Int)) (hi2 : Int) (first3 : Int) (root8 : Int) (child9 : Int) (r : (Lp ((List Int) × Int) ((List Int) ⊕ (List Int)))) (h : slices_siftDownOrdered_int_j19 data_ w_data_ hi2 first3 root8 child9 = some r) : Runs L F178b19 (slices_siftDownOrdered_int_h19 data_ w_data_ hi2 first3 root8 child9) (kB 1 (LQ [] [0, 2, 3, 8] [[0]] (fun (x : ((List Int) × Int)) (g : Unit) => slices_siftDownOrdered_int_h3 data_ x.1 hi2 first3 x.2) (slices_siftDownOrdered_int_P3 data_ lo_ hi_ first_ data_ hi2 first3) r)) := by
 unfold slices_siftDownOrdered_int_j19 at h
 refine Sq <| Sq <| Ro <| Rc 4 [⟨.ref [0] 0 0 (List.map (D.int .i64) w_data_).length 1, []⟩, vi first3, vi root8, vi (IntKind.wrap .i64 (first3 + root8))] ?_
 obtain ⟨z_3, hz_3, h⟩ := bind_s h
 refine Rt (some 43) (.iaddrS 1) [] none [.ref [0] 0 0 (List.map (D.int .i64) w_data_).length 1, .i (IntKind.wrap .i64 (first3 + root8))] (.eref [0] 0 (0 + ((IntKind.wrap .i64 (first3 + root8))).toNat) 0) [] (cut_atR (e := (D.int .i64)) (l := w_data_) hz_3 rfl) <| Rt (some 44) (.load none) [] none [.eref [0] 0 (0 + ((IntKind.wrap .i64 (first3 + root8))).toNat) 0] (.i z_3) [] (cut_loadR (e := (D.int .i64)) (l := w_data_) (fz := false) (y := z_3) (by kernel_rfl) hz_3 (by kernel_rfl) (by kernel_rfl)) <| Rc 4 [⟨.ref [0] 0 0 (List.map (D.int .i64) w_data_).length 1, []⟩, vi first3, vi child9, vi (IntKind.wrap .i64 (first3 + child9))] ?_
 obtain ⟨z_4, hz_4, h⟩ := bind_s h
 refine Rt (some 49) (.iaddrS 1) [] none [.ref [0] 0 0 (List.map (D.int .i64) w_data_).length 1, .i (IntKind.wrap .i64 (first3 + child9))] (.eref [0] 0 (0 + ((IntKind.wrap .i64 (first3 + child9))).toNat) 0) [] (cut_atR (e := (D.int .i64)) (l := w_data_) hz_4 rfl) <| Rt (some 50) (.load none) [] none [.eref [0] 0 (0 + ((IntKind.wrap .i64 (first3 + child9))).toNat) 0] (.i z_4) [] (cut_loadR (e := (D.int .i64)) (l := w_data_) (fz := false) (y := z_4) (by kernel_rfl) hz_4 (by kernel_rfl) (by kernel_rfl)) ?_
 obtain ⟨r_2, hr_2, h⟩ := bind_s h
 have hc_2 := cmp_Less_int_L z_3 z_4 r_2 hr_2
 refine Rt (some 51) (.callf 166) [] none [.i z_3, .i z_4] (.b r_2) [] (cc hc_2) <| Rc 1 [vb (!r_2)] <| Rk ?_
 cases hb_4 : ((!r_2) : Bool) with
 | true =>
  replace h := ite_t hb_4 h
  refine Ct <| Runs.ret <| kS_ret <| kB_ret ?_
  try dsimp only at h
  by_cases hlw0 : w_data_.length = data_.length
  case neg => rw [if_neg hlw0] at h; cases h
  rw [if_pos hlw0] at h
  obtain rfl := sj h
  exact ⟨nofun, rfl, (fin_ofL (rs := []) (by kernel_rfl) (map_cons_ (lendP_of (fz := false) (es := List.map (D.int .i64) w_data_) (by kernel_rfl) (by rw [List.length_map, List.length_map, hlw0] : (List.map (D.int .i64) data_).length = (List.map (D.int .i64) w_data_).length) (by decide)) (map_cons_ rfl (map_cons_ rfl (map_cons_ rfl map_nil_)))) (by kernel_rfl) outs_nil (gives_cons (give_lref (fz := false) (es := List.map (D.int .i64) w_data_) (by kernel_rfl) (by rw [List.length_map, List.length_map, hlw0] : (List.map (D.int .i64) data_).length = (List.map (D.int .i64) w_data_).length) (by kernel_rfl) (by decide)) (gives_cons (give_same (by kernel_rfl)) (gives_cons (give_same (by kernel_rfl)) (gives_cons (give_same (by kernel_rfl)) gives_nil)))))⟩
 | false =>
  replace h := ite_f hb_4 h
  refine Cf <| Runs.skip <| kS_nrm <| Sq <| Ro <| Rc 12 [⟨.ref [0] 0 0 (List.map (D.int .i64) w_data_).length 1, []⟩, vi first3, vi root8, vi (IntKind.wrap .i64 (first3 + root8)), ⟨.ref [0] 0 0 (List.map (D.int .i64) w_data_).length 1, []⟩, vi first3, vi child9, vi (IntKind.wrap .i64 (first3 + child9)), ⟨.ref [0] 0 0 (List.map (D.int .i64) w_data_).length 1, []⟩, vi first3, vi child9, vi (IntKind.wrap .i64 (first3 + child9))] ?_
  obtain ⟨z_5, hz_5, h⟩ := bind_s h
  refine Rt (some 65) (.iaddrS 1) [] none [.ref [0] 0 0 (List.map (D.int .i64) w_data_).length 1, .i (IntKind.wrap .i64 (first3 + child9))] (.eref [0] 0 (0 + ((IntKind.wrap .i64 (first3 + child9))).toNat) 0) [] (cut_atR (e := (D.int .i64)) (l := w_data_) hz_5 rfl) <| Rt (some 66) (.load none) [] none [.eref [0] 0 (0 + ((IntKind.wrap .i64 (first3 + child9))).toNat) 0] (.i z_5) [] (cut_loadR (e := (D.int .i64)) (l := w_data_) (fz := false) (y := z_5) (by kernel_rfl) hz_5 (by kernel_rfl) (by kernel_rfl)) <| Rc 4 [⟨.ref [0] 0 0 (List.map (D.int .i64) w_data_).length 1, []⟩, vi first3, vi root8, vi (IntKind.wrap .i64 (first3 + root8))] ?_
  obtain ⟨z_6, hz_6, h⟩ := bind_s h
  refine Rt (some 71) (.iaddrS 1) [] none [.ref [0] 0 0 (List.map (D.int .i64) w_data_).length 1, .i (IntKind.wrap .i64 (first3 + root8))] (.eref [0] 0 (0 + ((IntKind.wrap .i64 (first3 + root8))).toNat) 0) [] (cut_atR (e := (D.int .i64)) (l := w_data_) hz_6 rfl) <| Rt (some 72) (.load none) [] none [.eref [0] 0 (0 + ((IntKind.wrap .i64 (first3 + root8))).toNat) 0] (.i z_6) [] (cut_loadR (e := (D.int .i64)) (l := w_data_) (fz := false) (y := z_6) (by kernel_rfl) hz_6 (by kernel_rfl) (by kernel_rfl)) ?_
  obtain ⟨z_7, hz_7, h⟩ := bind_s h
  refine Rt (some 73) (.iaddrS 1) [] none [.ref [0] 0 0 (List.map (D.int .i64) w_data_).length 1, .i (IntKind.wrap .i64 (first3 + root8))] (.eref [0] 0 (0 + ((IntKind.wrap .i64 (first3 + root8))).toNat) 0) [] (cut_atR (e := (D.int .i64)) (l := w_data_) hz_7 rfl) <| Rt none (.store 1) [] none [.eref [0] 0 (0 + ((IntKind.wrap .i64 (first3 + root8))).toNat) 0, .i z_5] (.tup []) [([0], some (.arr (List.map (D.int .i64) (List.set w_data_ ((IntKind.wrap .i64 (first3 + root8))).toNat z_5)) 0 false))] (cut_setR (e := (D.int .i64)) (l := w_data_) (y := z_7) (y' := z_5) (ds := [.int .i64 z_5]) (by kernel_rfl) hz_7 (by kernel_rfl) (by kernel_rfl) (by kernel_rfl) (by kernel_rfl)) ?_
  obtain ⟨z_8, hz_8, h⟩ := bind_s h
  refine Rt (some 74) (.iaddrS 1) [] none [.ref [0] 0 0 (List.map (D.int .i64) w_data_).length 1, .i (IntKind.wrap .i64 (first3 + child9))] (.eref [0] 0 (0 + ((IntKind.wrap .i64 (first3 + child9))).toNat) 0) [] (cut_atR (e := (D.int .i64)) (l := (List.set w_data_ ((IntKind.wrap .i64 (first3 + root8))).toNat z_5)) hz_8 (by simp only [List.length_map, List.length_set, cpy_length] : (List.map (D.int .i64) w_data_).length = (List.map (D.int .i64) (List.set w_data_ ((IntKind.wrap .i64 (first3 + root8))).toNat z_5)).length)) <| Rt none (.store 1) [] none [.eref [0] 0 (0 + ((IntKind.wrap .i64 (first3 + child9))).toNat) 0, .i z_6] (.tup []) [([0], some (.arr (List.map (D.int .i64) (List.set (List.set w_data_ ((IntKind.wrap .i64 (first3 + root8))).toNat z_5) ((IntKind.wrap .i64 (first3 + child9))).toNat z_6)) 0 false))] (cut_setR (e := (D.int .i64)) (l := (List.set w_data_ ((IntKind.wrap .i64 (first3 + root8))).toNat z_5)) (y := z_8) (y' := z_6) (ds := [.int .i64 z_6]) (by kernel_rfl) hz_8 (by kernel_rfl) (by kernel_rfl) (by kernel_rfl) (by kernel_rfl)) <| Rk <| Ro <| Rc 2 [vi child9, vi child9] <| Rd <| kB_nrm ?_
  obtain rfl := sj h
  exact ⟨rfl, (), (Canon.len (f := fun n => slices_siftDownOrdered_int_h3n data_ (List.set (List.set w_data_ ((IntKind.wrap .i64 (first3 + root8))).toNat z_5) ((IntKind.wrap .i64 (first3 + child9))).toNat z_6) hi2 first3 child9 n) ((by simp only [List.length_map, List.length_set, cpy_length] : (List.map (D.int .i64) w_data_).length = (List.map (D.int .i64) (List.set (List.set w_data_ ((IntKind.wrap .i64 (first3 + root8))).toNat z_5) ((IntKind.wrap .i64 (first3 + child9))).toNat z_6)).length)).symm Cz)⟩
theorem slices_siftDownOrdered_int_l3_ok (data_ : (List Int)) (lo_ : Int) (hi_ : Int) (first_ : Int) (data_ : (List Int)) (w_data_ : (List Int)) (hi2 : Int) (first3 : Int) (root8 : Int) (r : (Lp ((List Int) × Int) ((List Int) ⊕ (List Int)))) (h : slices_siftDownOrdered_int_l3 data_ w_data_ hi2 first3 root8 = some r) : Runs L F178l3 (slices_siftDownOrdered_int_h3 data_ w_data_ hi2 first3 root8) (LQ [] [0, 2, 3, 8] [[0]] (fun (x : ((List Int) × Int)) (g : Unit) => slices_siftDownOrdered_int_h3 data_ x.1 hi2 first3 x.2) (slices_siftDownOrdered_int_P3 data_ lo_ hi_ first_ data_ hi2 first3) r) := by
 unfold slices_siftDownOrdered_int_l3 at h
 refine Runs.block <| Sq <| Ro <| Rc 4 [vi root8, vi (IntKind.wrap .i64 (2 * root8)), vi (IntKind.wrap .i64 ((IntKind.wrap .i64 (2 * root8)) + 1)), vi (IntKind.wrap .i64 ((IntKind.wrap .i64 (2 * root8)) + 1))] <| Rk <| Sq <| Sq <| Ro <| Rc 3 [vi (IntKind.wrap .i64 ((IntKind.wrap .i64 (2 * root8)) + 1)), vi hi2, vb (decide ((IntKind.wrap .i64 ((IntKind.wrap .i64 (2 * root8)) + 1)) ≥ hi2))] <| Rk ?_
 cases hb_1 : ((decide ((IntKind.wrap .i64 ((IntKind.wrap .i64 (2 * root8)) + 1)) ≥ hi2)) : Bool) with
 | true =>
  replace h := ite_t hb_1 h
  refine Ct <| Runs.exit <| kS_exit <| kB_pass (by decide) ?_
  obtain rfl := sj h
  exact ⟨nofun, rfl, (), Cz⟩
 | false =>
  replace h := ite_f hb_1 h
  refine Cf <| Runs.skip <| kS_nrm <| Sq <| Sq <| Ro <| Rc 5 [vi (IntKind.wrap .i64 ((IntKind.wrap .i64 (2 * root8)) + 1)), vi (IntKind.wrap .i64 ((IntKind.wrap .i64 ((IntKind.wrap .i64 (2 * root8)) + 1)) + 1)), vi hi2, vb (decide ((IntKind.wrap .i64 ((IntKind.wrap .i64 ((IntKind.wrap .i64 (2 * root8)) + 1)) + 1)) < hi2)), vb (decide ((IntKind.wrap .i64 ((IntKind.wrap .i64 ((IntKind.wrap .i64 (2 * root8)) + 1)) + 1)) < hi2))] ?_
  cases hb_2 : ((decide ((IntKind.wrap .i64 ((IntKind.wrap .i64 ((IntKind.wrap .i64 (2 * root8)) + 1)) + 1)) < hi2)) : Bool) with
  | true =>
   replace h := ite_t hb_2 h
   refine Rc 4 [⟨.ref [0] 0 0 (List.map (D.int .i64) w_data_).length 1, []⟩, vi first3, vi (IntKind.wrap .i64 ((IntKind.wrap .i64 (2 * root8)) + 1)), vi (IntKind.wrap .i64 (first3 + (IntKind.wrap .i64 ((IntKind.wrap .i64 (2 * root8)) + 1))))] ?_
   obtain ⟨z_1, hz_1, h⟩ := bind_s h
   refine Rt (some 26) (.iaddrS 1) [] none [.ref [0] 0 0 (List.map (D.int .i64) w_data_).length 1, .i (IntKind.wrap .i64 (first3 + (IntKind.wrap .i64 ((IntKind.wrap .i64 (2 * root8)) + 1))))] (.eref [0] 0 (0 + ((IntKind.wrap .i64 (first3 + (IntKind.wrap .i64 ((IntKind.wrap .i64 (2 * root8)) + 1))))).toNat) 0) [] (cut_atR (e := (D.int .i64)) (l := w_data_) hz_1 rfl) <| Rt (some 27) (.load none) [] none [.eref [0] 0 (0 + ((IntKind.wrap .i64 (first3 + (IntKind.wrap .i64 ((IntKind.wrap .i64 (2 * root8)) + 1))))).toNat) 0] (.i z_1) [] (cut_loadR (e := (D.int .i64)) (l := w_data_) (fz := false) (y := z_1) (by kernel_rfl) hz_1 (by kernel_rfl) (by kernel_rfl)) <| Rc 5 [⟨.ref [0] 0 0 (List.map (D.int .i64) w_data_).length 1, []⟩, vi first3, vi (IntKind.wrap .i64 ((IntKind.wrap .i64 (2 * root8)) + 1)), vi (IntKind.wrap .i64 (first3 + (IntKind.wrap .i64 ((IntKind.wrap .i64 (2 * root8)) + 1)))), vi (IntKind.wrap .i64 ((IntKind.wrap .i64 (first3 + (IntKind.wrap .i64 ((IntKind.wrap .i64 (2 * root8)) + 1)))) + 1))] ?_
   obtain ⟨z_2, hz_2, h⟩ := bind_s h
   refine Rt (some 33) (.iaddrS 1) [] none [.ref [0] 0 0 (List.map (D.int .i64) w_data_).length 1, .i (IntKind.wrap .i64 ((IntKind.wrap .i64 (first3 + (IntKind.wrap .i64 ((IntKind.wrap .i64 (2 * root8)) + 1)))) + 1))] (.eref [0] 0 (0 + ((IntKind.wrap .i64 ((IntKind.wrap .i64 (first3 + (IntKind.wrap .i64 ((IntKind.wrap .i64 (2 * root8)) + 1)))) + 1))).toNat) 0) [] (cut_atR (e := (D.int .i64)) (l := w_data_) hz_2 rfl) <| Rt (some 34) (.load none) [] none [.eref [0] 0 (0 + ((IntKind.wrap .i64 ((IntKind.wrap .i64 (first3 + (IntKind.wrap .i64 ((IntKind.wrap .i64 (2 * root8)) + 1)))) + 1))).toNat) 0] (.i z_2) [] (cut_loadR (e := (D.int .i64)) (l := w_data_) (fz := false) (y := z_2) (by kernel_rfl) hz_2 (by kernel_rfl) (by kernel_rfl)) ?_
   obtain ⟨r_1, hr_1, h⟩ := bind_s h
   have hc_1 := cmp_Less_int_L z_1 z_2 r_1 hr_1
   refine Rt (some 35) (.callf 166) [] none [.i z_1, .i z_2] (.b r_1) [] (cc hc_1) <| Rc 1 [vb r_1] <| Rk ?_
   cases hb_3 : (r_1 : Bool) with
   | true =>
    replace h := ite_t hb_3 h
    refine Ct <| Ro <| Rc 3 [vi (IntKind.wrap .i64 ((IntKind.wrap .i64 (2 * root8)) + 1)), vi (IntKind.wrap .i64 ((IntKind.wrap .i64 ((IntKind.wrap .i64 (2 * root8)) + 1)) + 1)), vi (IntKind.wrap .i64 ((IntKind.wrap .i64 ((IntKind.wrap .i64 (2 * root8)) + 1)) + 1))] <| Rk <| Runs.canon (slices_siftDownOrdered_int_h19 data_ w_data_ hi2 first3 root8 (IntKind.wrap .i64 ((IntKind.wrap .i64 ((IntKind.wrap .i64 (2 * root8)) + 1)) + 1))) Cz ?_
    exact slices_siftDownOrdered_int_j19_ok data_ lo_ hi_ first_ data_ w_data_ hi2 first3 root8 (IntKind.wrap .i64 ((IntKind.wrap .i64 ((IntKind.wrap .i64 (2 * root8)) + 1)) + 1)) r h
   | false =>
    replace h := ite_f hb_3 h
    refine Cf <| Runs.skip <| kS_nrm <| Runs.canon (slices_siftDownOrdered_int_h19 data_ w_data_ hi2 first3 root8 (IntKind.wrap .i64 ((IntKind.wrap .i64 (2 * root8)) + 1))) Cz ?_
    exact slices_siftDownOrdered_int_j19_ok data_ lo_ hi_ first_ data_ w_data_ hi2 first3 root8 (IntKind.wrap .i64 ((IntKind.wrap .i64 (2 * root8)) + 1)) r h
  | false =>
   replace h := ite_f hb_2 h
   refine Rc 15 [vn, vn, vn, vn, vn, vn, vn, vn, vn, vn, vn, vn, vn, vn, vb false] <| Rk <| Cf <| Runs.skip <| kS_nrm <| Runs.canon (slices_siftDownOrdered_int_h19 data_ w_data_ hi2 first3 root8 (IntKind.wrap .i64 ((IntKind.wrap .i64 (2 * root8)) + 1))) Cz ?_
   exact slices_siftDownOrdered_int_j19_ok data_ lo_ hi_ first_ data_ w_data_ hi2 first3 root8 (IntKind.wrap .i64 ((IntKind.wrap .i64 (2 * root8)) + 1)) r h
theorem slices_siftDownOrdered_int_ok (data_ : (List Int)) (lo_ : Int) (hi_ : Int) (first_ : Int) (r : (List Int)) (h : slices_siftDownOrdered_int data_ lo_ hi_ first_ = some r) : Runs L F178.body ⟨tmOf [.ref [0] 0 0 (List.map (D.int .i64) data_).length 1, .i lo_, .i hi_, .i first_] 0, updW (fun _ => none) [([0], some (.arr (List.map (D.int .i64) data_) 0 false))]⟩ (slices_siftDownOrdered_int_Q data_ lo_ hi_ first_ r) := by
 unfold slices_siftDownOrdered_int at h
 refine Sq <| Sq <| Sq <| Ro <| Rc 2 [vi lo_, vi lo_] <| Rk <| Runs.block ?_
 obtain ⟨e_1, he_1, h⟩ := bind_s h
 refine Runs.loop (fun x : ((List Int) × Int) => slices_siftDownOrdered_int_l3 data_ x.1 hi_ first_ x.2) (fun (x : ((List Int) × Int)) (g : Unit) => slices_siftDownOrdered_int_h3 data_ x.1 hi_ first_ x.2) (slices_siftDownOrdered_int_P3 data_ lo_ hi_ first_ data_ hi_ first_) (fun x g r hr => slices_siftDownOrdered_int_l3_ok data_ lo_ hi_ first_ data_ x.1 hi_ first_ x.2  r hr) () he_1 Cz ?_
 rintro ⟨o, s⟩ hp
 cases e_1 with
 | inl e_2 =>
  obtain ⟨ho, g_1, hk_1⟩ := hp
  have ho' : o = .exit 0 := ho
  subst ho'
  refine kB_hit <| kS_nrm <| Runs.canon _ hk_1 <| Runs.skip <| kS_nrm <| Runs.gnil ?_
  try dsimp only at h
  by_cases hlw0 : e_2.length = data_.length
  case neg => rw [if_neg hlw0] at h; cases h
  rw [if_pos hlw0] at h
  obtain rfl := sj h
  exact ⟨Out.nrm_ne, (fin_ofL (rs := []) (by kernel_rfl) (map_cons_ (lendP_of (fz := false) (es := List.map (D.int .i64) e_2) (by kernel_rfl) (by rw [List.length_map, List.length_map, hlw0] : (List.map (D.int .i64) data_).length = (List.map (D.int .i64) e_2).length) (by decide)) (map_cons_ rfl (map_cons_ rfl (map_cons_ rfl map_nil_)))) (by kernel_rfl) outs_nil (gives_cons (give_lref (fz := false) (es := List.map (D.int .i64) e_2) (by kernel_rfl) (by rw [List.length_map, List.length_map, hlw0] : (List.map (D.int .i64) data_).length = (List.map (D.int .i64) e_2).length) (by kernel_rfl) (by decide)) (gives_cons (give_same (by kernel_rfl)) (gives_cons (give_same (by kernel_rfl)) (gives_cons (give_same (by kernel_rfl)) gives_nil)))))⟩
 | inr e_3 =>
  obtain ⟨ho, hf⟩ := hp
  have ho' : o = .ret := ho
  subst ho'
  refine kB_ret <| kS_ret <| kS_ret ?_
  obtain rfl := sj h
  exact ⟨Out.ret_ne, hf⟩
theorem slices_siftDownOrdered_int_L (data_ : (List Int)) (lo_ : Int) (hi_ : Int) (first_ : Int) (r : (List Int)) (h : slices_siftDownOrdered_int data_ lo_ hi_ first_ = some r) : L 178 [.arr false 1 (List.map (D.int .i64) data_), .i lo_, .i hi_, .i first_] = some (.tup [], [.arr false 1 (List.map (D.int .i64) r), .i lo_, .i hi_, .i first_]) := by
 obtain ⟨p, ⟨hne, hf⟩, hr⟩ := slices_siftDownOrdered_int_ok data_ lo_ hi_ first_ r h
 obtain ⟨k, hk⟩ := run_of (F := F178) (args := [.arr false 1 (List.map (D.int .i64) data_), .i lo_, .i hi_, .i first_]) (ap := [.ref [0] 0 0 (List.map (D.int .i64) data_).length 1, .i lo_, .i hi_, .i first_]) (bx0 := updW (fun _ => none) [([0], some (.arr (List.map (D.int .i64) data_) 0 false))]) rfl rfl (by kernel_rfl) ⟨p, ⟨hne, hf⟩, hr⟩
 exact lim_run (k := k) rfl hk
def slices_heapSortOrdered_int_h10n (data_ : (List Int)) (w_data_ : (List Int)) (first6 : Int) (lo7 : Int) (hi8 : Int) (i9 : Int) (n_0 : Nat) : St := ⟨tab [(0, .ref [0] 0 0 n_0 1), (6, .i first6), (7, .i lo7), (8, .i hi8), (9, .i i9)], tabB [([0], some (.arr (List.map (D.int .i64) w_data_) 0 false))]⟩
def slices_heapSortOrdered_int_h10 (data_ : (List Int)) (w_data_ : (List Int)) (first6 : Int) (lo7 : Int) (hi8 : Int) (i9 : Int) : St := slices_heapSortOrdered_int_h10n data_ w_data_ first6 lo7 hi8 i9 (List.map (D.int .i64) w_data_).length
def slices_heapSortOrdered_int_h21 (data_ : (List Int)) (w_data_ : (List Int)) (first6 : Int) (lo7 : Int) (hi8 : Int) : St := ⟨tab [(0, .ref [0] 0 0 (List.map (D.int .i64) w_data_).length 1), (6, .i first6), (7, .i lo7), (8, .i hi8)], tabB [([0], some (.arr (List.map (D.int .i64) w_data_) 0 false))]⟩
def slices_heapSortOrdered_int_h24n (data_ : (List Int)) (w_data_ : (List Int)) (first6 : Int) (lo7 : Int) (i10 : Int) (n_0 : Nat) : St := ⟨tab [(0, .ref [0] 0 0 n_0 1), (6, .i first6), (7, .i lo7), (10, .i i10)], tabB [([0], some (.arr (List.map (D.int .i64) w_data_) 0 false))]⟩
def slices_heapSortOrdered_int_h24 (data_ : (List Int)) (w_data_ : (List Int)) (first6 : Int) (lo7 : Int) (i10 : Int) : St := slices_heapSortOrdered_int_h24n data_ w_data_ first6 lo7 i10 (List.map (D.int .i64) w_data_).length
def slices_heapSortOrdered_int_h37 (data_ : (List Int)) (w_data_ : (List Int)) : St := ⟨tab [], tabB [([0], some (.arr (List.map (D.int .i64) w_data_) 0 false))]⟩
def slices_heapSortOrdered_int_Q (data_ : (List Int)) (a_ : Int) (b_ : Int) (r : (List Int)) (p : Out × St) : Prop := (∀ i, p.1 ≠ .exit i) ∧ finF F161 [.ref [0] 0 0 (List.map (D.int .i64) data_).length 1, .i a_, .i b_] p.2 = some (.tup [], [.arr false 1 (List.map (D.int .i64) r), .i a_, .i b_])
def slices_heapSortOrdered_int_P10 (data_ : (List Int)) (a_ : Int) (b_ : Int) (data_ : (List Int)) (first6 : Int) (lo7 : Int) (hi8 : Int) (e : (List Int)) (p : Out × St) : Prop := p.1 = .exit 0 ∧ ∃ g : Unit, Canon [] [0, 6, 7, 8] [[0]] p.2 (slices_heapSortOrdered_int_h21 data_ e first6 lo7 hi8)
def slices_heapSortOrdered_int_P24 (data_ : (List Int)) (a_ : Int) (b_ : Int) (data_ : (List Int)) (first6 : Int) (lo7 : Int) (e : (List Int)) (p : Out × St) : Prop := p.1 = .exit 2 ∧ ∃ g : Unit, Canon [] [] [[0]] p.2 (slices_heapSortOrdered_int_h37 data_ e)
theorem slices_heapSortOrdered_int_l10_ok (data_ : (List Int)) (a_ : Int) (b_ : Int) (data_ : (List Int)) (w_data_ : (List Int)) (first6 : Int) (lo7 : Int) (hi8 : Int) (i9 : Int) (r : (Lp ((List Int) × Int) (List Int))) (h : slices_heapSortOrdered_int_l10 data_ w_data_ first6 lo7 hi8 i9 = some r) : Runs L F161l10 (slices_heapSortOrdered_int_h10 data_ w_data_ first6 lo7 hi8 i9) (LQ [] [0, 6, 7, 8, 9] [[0]] (fun (x : ((List Int) × Int)) (g : Unit) => slices_heapSortOrdered_int_h10 data_ x.1 first6 lo7 hi8 x.2) (slices_heapSortOrdered_int_P10 data_ a_ b_ data_ first6 lo7 hi8) r) := by
 unfold slices_heapSortOrdered_int_l10 at h
 refine Sq <| Sq <| Ro <| Rc 2 [vi i9, vb (decide (i9 ≥ 0))] <| Rk ?_
 cases hb_1 : ((decide (i9 ≥ 0)) : Bool) with
 | true =>
  replace h := ite_t hb_1 h
  refine Ct <| Runs.skip <| kS_nrm <| Sq <| Runs.block <| Ro <| Rc 4 [⟨.ref [0] 0 0 (List.map (D.int .i64) w_data_).length 1, []⟩, vi i9, vi hi8, vi first6] ?_
  obtain ⟨r_1, hr_1, h⟩ := bind_s h
  have hc_1 := slices_siftDownOrdered_int_L w_data_ i9 hi8 first6 r_1 hr_1
  have hn_1 := lim_len (F := tab1) (X := fun _ _ => none) hc_1 (show tab1 178 = some F178 from by kernel_rfl) rfl 0 rfl (by decide) rfl
  refine Rt (some 26) (.callf 178) [] none [.lref [0] 0 0 (List.map (D.int .i64) w_data_).length 1, .i i9, .i hi8, .i first6] (.tup []) [([0], some (.arr (List.map (D.int .i64) r_1) 0 false))] (cut_call (call_ofL (ws := []) (us := [([0], some (.arr (List.map (D.int .i64) r_1) 0 false))]) (by kernel_rfl) (map_cons_ (lendX_of (fz := false) (es := List.map (D.int .i64) w_data_) (by kernel_rfl) (by kernel_rfl) rfl (by decide)) (map_cons_ rfl (map_cons_ rfl (map_cons_ rfl map_nil_)))) (gives_cons (ws := []) (give_lref (fz := false) (es := List.map (D.int .i64) w_data_) (by kernel_rfl) rfl (by kernel_rfl) (by decide)) (gives_cons (ws := []) (give_same (by kernel_rfl)) (gives_cons (ws := []) (give_same (by kernel_rfl)) (gives_cons (ws := []) (give_same (by kernel_rfl)) gives_nil)))) hc_1 (backs_cons_ (ws := [([0], some (.arr (List.map (D.int .i64) r_1) 0 false))]) (back_lref (f0 := false) (es0 := List.map (D.int .i64) w_data_) (by kernel_rfl) hn_1) (backs_cons_ (ws := []) (by kernel_rfl) (backs_cons_ (ws := []) (by kernel_rfl) (backs_cons_ (ws := []) (by kernel_rfl) backs_nil_)))) (by kernel_rfl))) <| Rd <| kB_nrm <| kS_nrm <| Ro <| Rc 3 [vi i9, vi (IntKind.wrap .i64 (i9 - 1)), vi (IntKind.wrap .i64 (i9 - 1))] <| Rd ?_
  obtain rfl := sj h
  exact ⟨rfl, (), (Canon.len (f := fun n => slices_heapSortOrdered_int_h10n data_ r_1 first6 lo7 hi8 (IntKind.wrap .i64 (i9 - 1)) n) ((by simp only [List.length_map, List.length_set, cpy_length] at * <;> omega : (List.map (D.int .i64) w_data_).length = (List.map (D.int .i64) r_1).length)).symm Cz)⟩
 | false =>
  replace h := ite_f hb_1 h
  refine Cf <| Runs.exit <| kS_exit ?_
  obtain rfl := sj h
  exact ⟨nofun, rfl, (), Cz⟩
theorem slices_heapSortOrdered_int_l24_ok (data_ : (List Int)) (a_ : Int) (b_ : Int) (data_ : (List Int)) (w_data_ : (List Int)) (first6 : Int) (lo7 : Int) (i10 : Int) (r : (Lp ((List Int) × Int) (List Int))) (h : slices_heapSortOrdered_int_l24 data_ w_data_ first6 lo7 i10 = some r) : Runs L F161l24 (slices_heapSortOrdered_int_h24 data_ w_data_ first6 lo7 i10) (LQ [] [0, 6, 7, 10] [[0]] (fun (x : ((List Int) × Int)) (g : Unit) => slices_heapSortOrdered_int_h24 data_ x.1 first6 lo7 x.2) (slices_heapSortOrdered_int_P24 data_ a_ b_ data_ first6 lo7) r) := by
 unfold slices_heapSortOrdered_int_l24 at h
 refine Sq <| Sq <| Ro <| Rc 2 [vi i10, vb (decide (i10 ≥ 0))] <| Rk ?_
 cases hb_1 : ((decide (i10 ≥ 0)) : Bool) with
 | true =>
  replace h := ite_t hb_1 h
  refine Ct <| Runs.skip <| kS_nrm <| Sq <| Runs.block <| Sq <| Ro <| Rc 10 [⟨.ref [0] 0 0 (List.map (D.int .i64) w_data_).length 1, []⟩, vi first6, ⟨.ref [0] 0 0 (List.map (D.int .i64) w_data_).length 1, []⟩, vi first6, vi i10, vi (IntKind.wrap .i64 (first6 + i10)), ⟨.ref [0] 0 0 (List.map (D.int .i64) w_data_).length 1, []⟩, vi first6, vi i10, vi (IntKind.wrap .i64 (first6 + i10))] ?_
  obtain ⟨z_1, hz_1, h⟩ := bind_s h
  refine Rt (some 43) (.iaddrS 1) [] none [.ref [0] 0 0 (List.map (D.int .i64) w_data_).length 1, .i (IntKind.wrap .i64 (first6 + i10))] (.eref [0] 0 (0 + ((IntKind.wrap .i64 (first6 + i10))).toNat) 0) [] (cut_atR (e := (D.int .i64)) (l := w_data_) hz_1 rfl) <| Rt (some 44) (.load none) [] none [.eref [0] 0 (0 + ((IntKind.wrap .i64 (first6 + i10))).toNat) 0] (.i z_1) [] (cut_loadR (e := (D.int .i64)) (l := w_data_) (fz := false) (y := z_1) (by kernel_rfl) hz_1 (by kernel_rfl) (by kernel_rfl)) <| Rc 2 [⟨.ref [0] 0 0 (List.map (D.int .i64) w_data_).length 1, []⟩, vi first6] ?_
  obtain ⟨z_2, hz_2, h⟩ := bind_s h
  refine Rt (some 47) (.iaddrS 1) [] none [.ref [0] 0 0 (List.map (D.int .i64) w_data_).length 1, .i first6] (.eref [0] 0 (0 + (first6).toNat) 0) [] (cut_atR (e := (D.int .i64)) (l := w_data_) hz_2 rfl) <| Rt (some 48) (.load none) [] none [.eref [0] 0 (0 + (first6).toNat) 0] (.i z_2) [] (cut_loadR (e := (D.int .i64)) (l := w_data_) (fz := false) (y := z_2) (by kernel_rfl) hz_2 (by kernel_rfl) (by kernel_rfl)) ?_
  obtain ⟨z_3, hz_3, h⟩ := bind_s h
  refine Rt (some 49) (.iaddrS 1) [] none [.ref [0] 0 0 (List.map (D.int .i64) w_data_).length 1, .i first6] (.eref [0] 0 (0 + (first6).toNat) 0) [] (cut_atR (e := (D.int .i64)) (l := w_data_) hz_3 rfl) <| Rt none (.store 1) [] none [.eref [0] 0 (0 + (first6).toNat) 0, .i z_1] (.tup []) [([0], some (.arr (List.map (D.int .i64) (List.set w_data_ (first6).toNat z_1)) 0 false))] (cut_setR (e := (D.int .i64)) (l := w_data_) (y := z_3) (y' := z_1) (ds := [.int .i64 z_1]) (by kernel_rfl) hz_3 (by kernel_rfl) (by kernel_rfl) (by kernel_rfl) (by kernel_rfl)) ?_
  obtain ⟨z_4, hz_4, h⟩ := bind_s h
  refine Rt (some 50) (.iaddrS 1) [] none [.ref [0] 0 0 (List.map (D.int .i64) w_data_).length 1, .i (IntKind.wrap .i64 (first6 + i10))] (.eref [0] 0 (0 + ((IntKind.wrap .i64 (first6 + i10))).toNat) 0) [] (cut_atR (e := (D.int .i64)) (l := (List.set w_data_ (first6).toNat z_1)) hz_4 (by simp only [List.length_map, List.length_set, cpy_length] : (List.map (D.int .i64) w_data_).length = (List.map (D.int .i64) (List.set w_data_ (first6).toNat z_1)).length)) <| Rt none (.store 1) [] none [.eref [0] 0 (0 + ((IntKind.wrap .i64 (first6 + i10))).toNat) 0, .i z_2] (.tup []) [([0], some (.arr (List.map (D.int .i64) (List.set (List.set w_data_ (first6).toNat z_1) ((IntKind.wrap .i64 (first6 + i10))).toNat z_2)) 0 false))] (cut_setR (e := (D.int .i64)) (l := (List.set w_data_ (first6).toNat z_1)) (y := z_4) (y' := z_2) (ds := [.int .i64 z_2]) (by kernel_rfl) hz_4 (by kernel_rfl) (by kernel_rfl) (by kernel_rfl) (by kernel_rfl)) <| Rk <| Ro <| Rc 4 [⟨.ref [0] 0 0 (List.map (D.int .i64) w_data_).length 1, []⟩, vi lo7, vi i10, vi first6] ?_
  obtain ⟨r_1, hr_1, h⟩ := bind_s h
  have hc_1 := slices_siftDownOrdered_int_L (List.set (List.set w_data_ (first6).toNat z_1) ((IntKind.wrap .i64 (first6 + i10))).toNat z_2) lo7 i10 first6 r_1 hr_1
  have hn_1 := lim_len (F := tab1) (X := fun _ _ => none) hc_1 (show tab1 178 = some F178 from by kernel_rfl) rfl 0 rfl (by decide) rfl
  refine Rt (some 55) (.callf 178) [] none [.lref [0] 0 0 (List.map (D.int .i64) w_data_).length 1, .i lo7, .i i10, .i first6] (.tup []) [([0], some (.arr (List.map (D.int .i64) r_1) 0 false))] (cut_call (call_ofL (ws := []) (us := [([0], some (.arr (List.map (D.int .i64) r_1) 0 false))]) (by kernel_rfl) (map_cons_ (lendX_of (fz := false) (es := List.map (D.int .i64) (List.set (List.set w_data_ (first6).toNat z_1) ((IntKind.wrap .i64 (first6 + i10))).toNat z_2)) (by kernel_rfl) (by kernel_rfl) (by simp only [List.length_map, List.length_set, cpy_length] : (List.map (D.int .i64) w_data_).length = (List.map (D.int .i64) (List.set (List.set w_data_ (first6).toNat z_1) ((IntKind.wrap .i64 (first6 + i10))).toNat z_2)).length) (by decide)) (map_cons_ rfl (map_cons_ rfl (map_cons_ rfl map_nil_)))) (gives_cons (ws := []) (give_lref (fz := false) (es := List.map (D.int .i64) (List.set (List.set w_data_ (first6).toNat z_1) ((IntKind.wrap .i64 (first6 + i10))).toNat z_2)) (by kernel_rfl) (by simp only [List.length_map, List.length_set, cpy_length] : (List.map (D.int .i64) w_data_).length = (List.map (D.int .i64) (List.set (List.set w_data_ (first6).toNat z_1) ((IntKind.wrap .i64 (first6 + i10))).toNat z_2)).length) (by kernel_rfl) (by decide)) (gives_cons (ws := []) (give_same (by kernel_rfl)) (gives_cons (ws := []) (give_same (by kernel_rfl)) (gives_cons (ws := []) (give_same (by kernel_rfl)) gives_nil)))) hc_1 (backs_cons_ (ws := [([0], some (.arr (List.map (D.int .i64) r_1) 0 false))]) (back_lref (f0 := false) (es0 := List.map (D.int .i64) (List.set (List.set w_data_ (first6).toNat z_1) ((IntKind.wrap .i64 (first6 + i10))).toNat z_2)) (by kernel_rfl) hn_1) (backs_cons_ (ws := []) (by kernel_rfl) (backs_cons_ (ws := []) (by kernel_rfl) (backs_cons_ (ws := []) (by kernel_rfl) backs_nil_)))) (by kernel_rfl))) ?_
  refine Rd <| kB_nrm <| kS_nrm <| Ro <| Rc 3 [vi i10, vi (IntKind.wrap .i64 (i10 - 1)), vi (IntKind.wrap .i64 (i10 - 1))] <| Rd ?_
  obtain rfl := sj h
  exact ⟨rfl, (), (Canon.len (f := fun n => slices_heapSortOrdered_int_h24n data_ r_1 first6 lo7 (IntKind.wrap .i64 (i10 - 1)) n) ((by simp only [List.length_map, List.length_set, cpy_length] at * <;> omega : (List.map (D.int .i64) w_data_).length = (List.map (D.int .i64) r_1).length)).symm Cz)⟩
 | false =>
  replace h := ite_f hb_1 h
  refine Cf <| Runs.exit <| kS_exit ?_
  obtain rfl := sj h
  exact ⟨nofun, rfl, (), Cz⟩
theorem slices_heapSortOrdered_int_ok (data_ : (List Int)) (a_ : Int) (b_ : Int) (r : (List Int)) (h : slices_heapSortOrdered_int data_ a_ b_ = some r) : Runs L F161.body ⟨tmOf [.ref [0] 0 0 (List.map (D.int .i64) data_).length 1, .i a_, .i b_] 0, updW (fun _ => none) [([0], some (.arr (List.map (D.int .i64) data_) 0 false))]⟩ (slices_heapSortOrdered_int_Q data_ a_ b_ r) := by
 unfold slices_heapSortOrdered_int at h
 refine Sq <| Sq <| Sq <| Ro <| Rc 2 [vi a_, vi a_] <| Rk <| Sq <| Ro <| Rc 1 [vi 0] <| Rk <| Sq <| Ro <| Rc 4 [vi b_, vi a_, vi (IntKind.wrap .i64 (b_ - a_)), vi (IntKind.wrap .i64 (b_ - a_))] <| Rk <| Sq <| Sq <| Ro <| Rc 4 [vi (IntKind.wrap .i64 (b_ - a_)), vi (IntKind.wrap .i64 ((IntKind.wrap .i64 (b_ - a_)) - 1)), vi (IntKind.wrap .i64 (Int.tdiv (IntKind.wrap .i64 ((IntKind.wrap .i64 (b_ - a_)) - 1)) 2)), vi (IntKind.wrap .i64 (Int.tdiv (IntKind.wrap .i64 ((IntKind.wrap .i64 (b_ - a_)) - 1)) 2))] <| Rk <| Runs.block ?_
 obtain ⟨e_1, he_1, h⟩ := bind_s h
 refine Runs.loop (fun x : ((List Int) × Int) => slices_heapSortOrdered_int_l10 data_ x.1 a_ 0 (IntKind.wrap .i64 (b_ - a_)) x.2) (fun (x : ((List Int) × Int)) (g : Unit) => slices_heapSortOrdered_int_h10 data_ x.1 a_ 0 (IntKind.wrap .i64 (b_ - a_)) x.2) (slices_heapSortOrdered_int_P10 data_ a_ b_ data_ a_ 0 (IntKind.wrap .i64 (b_ - a_))) (fun x g r hr => slices_heapSortOrdered_int_l10_ok data_ a_ b_ data_ x.1 a_ 0 (IntKind.wrap .i64 (b_ - a_)) x.2  r hr) () he_1 Cz ?_
 rintro ⟨o, s⟩ hp
 obtain ⟨ho, g_1, hk_1⟩ := hp
 have ho' : o = .exit 0 := ho
 subst ho'
 refine kB_hit <| kS_nrm <| Runs.canon _ hk_1 <| Sq <| Ro <| Rc 3 [vi (IntKind.wrap .i64 (b_ - a_)), vi (IntKind.wrap .i64 ((IntKind.wrap .i64 (b_ - a_)) - 1)), vi (IntKind.wrap .i64 ((IntKind.wrap .i64 (b_ - a_)) - 1))] <| Rk <| Runs.block ?_
 obtain ⟨e_2, he_2, h⟩ := bind_s h
 refine Runs.loop (fun x : ((List Int) × Int) => slices_heapSortOrdered_int_l24 data_ x.1 a_ 0 x.2) (fun (x : ((List Int) × Int)) (g : Unit) => slices_heapSortOrdered_int_h24 data_ x.1 a_ 0 x.2) (slices_heapSortOrdered_int_P24 data_ a_ b_ data_ a_ 0) (fun x g r hr => slices_heapSortOrdered_int_l24_ok data_ a_ b_ data_ x.1 a_ 0 x.2  r hr) () he_2 Cz ?_
 rintro ⟨o, s⟩ hp
 obtain ⟨ho, g_2, hk_2⟩ := hp
 have ho' : o = .exit 2 := ho
 subst ho'
 refine kB_hit <| kS_nrm <| Runs.canon _ hk_2 <| Runs.skip <| kS_nrm <| Runs.gnil ?_
 try dsimp only at h
 by_cases hlw0 : e_2.length = data_.length
 case neg => rw [if_neg hlw0] at h; cases h
 rw [if_pos hlw0] at h
 obtain rfl := sj h
 exact ⟨Out.nrm_ne, (fin_ofL (rs := []) (by kernel_rfl) (map_cons_ (lendP_of (fz := false) (es := List.map (D.int .i64) e_2) (by kernel_rfl) (by rw [List.length_map, List.length_map, hlw0] : (List.map (D.int .i64) data_).length = (List.map (D.int .i64) e_2).length) (by decide)) (map_cons_ rfl (map_cons_ rfl map_nil_))) (by kernel_rfl) outs_nil (gives_cons (give_lref (fz := false) (es := List.map (D.int .i64) e_2) (by kernel_rfl) (by rw [List.length_map, List.length_map, hlw0] : (List.map (D.int .i64) data_).length = (List.map (D.int .i64) e_2).length) (by kernel_rfl) (by decide)) (gives_cons (give_same (by kernel_rfl)) (gives_cons (give_same (by kernel_rfl)) gives_nil))))⟩
theorem slices_heapSortOrdered_int_L (data_ : (List Int)) (a_ : Int) (b_ : Int) (r : (List Int)) (h : slices_heapSortOrdered_int data_ a_ b_ = some r) : L 161 [.arr false 1 (List.map (D.int .i64) data_), .i a_, .i b_] = some (.tup [], [.arr false 1 (List.map (D.int .i64) r), .i a_, .i b_]) := by
 obtain ⟨p, ⟨hne, hf⟩, hr⟩ := slices_heapSortOrdered_int_ok data_ a_ b_ r h
 obtain ⟨k, hk⟩ := run_of (F := F161) (args := [.arr false 1 (List.map (D.int .i64) data_), .i a_, .i b_]) (ap := [.ref [0] 0 0 (List.map (D.int .i64) data_).length 1, .i a_, .i b_]) (bx0 := updW (fun _ => none) [([0], some (.arr (List.map (D.int .i64) data_) 0 false))]) rfl rfl (by kernel_rfl) ⟨p, ⟨hne, hf⟩, hr⟩
 exact lim_run (k := k) rfl hk
def slices_nextPowerOfTwo_Q (length_ : Int) (r : Int) (p : Out × St) : Prop := (∀ i, p.1 ≠ .exit i) ∧ finF F179 [.i length_] p.2 = some (.d (.int .u64 r), [.i length_])
theorem slices_nextPowerOfTwo_ok (length_ : Int) (r : Int) (h : slices_nextPowerOfTwo length_ = some r) : Runs L F179.body ⟨tmOf [.i length_] 0, updW (fun _ => none) []⟩ (slices_nextPowerOfTwo_Q length_ r) := by
 unfold slices_nextPowerOfTwo at h
 refine Sq <| Ro <| Rc 1 [⟨.d (.int .u64 0), []⟩] <| Rk <| Sq <| Ro <| Rc 2 [vi length_, ⟨.d (.int .u64 (IntKind.wrap .u64 length_)), []⟩] ?_
 obtain ⟨r_1, hr_1, h⟩ := bind_s h
 have hc_1 := math_bits_Len_L (IntKind.wrap .u64 length_) r_1 hr_1
 refine Rt (some 5) (.callf 136) [] none [.d (.int .u64 (IntKind.wrap .u64 length_))] (.i r_1) [] (cc hc_1) ?_
 obtain ⟨z_1, hz_1, h⟩ := bind_s h
 refine Rt (some 6) (.bin .shl) [] none [.d (.int .u64 1), .i r_1] (.d (.int .u64 z_1)) [] (cut_shl hz_1) <| Rc 1 [⟨.d (.int .u64 z_1), []⟩] <| Rk <| Runs.ret ?_
 cases h
 exact Fq
theorem slices_nextPowerOfTwo_L (length_ : Int) (r : Int) (h : slices_nextPowerOfTwo length_ = some r) : L 179 [.i length_] = some (.d (.int .u64 r), [.i length_]) := by
 obtain ⟨p, ⟨hne, hf⟩, hr⟩ := slices_nextPowerOfTwo_ok length_ r h
 obtain ⟨k, hk⟩ := run_of (F := F179) (args := [.i length_]) (ap := [.i length_]) (bx0 := updW (fun _ => none) []) rfl rfl (by kernel_rfl) ⟨p, ⟨hne, hf⟩, hr⟩
 exact lim_run (k := k) rfl hk
def slices_xorshift_Next_Q (r_ : Int) (r : (Int × Int)) (p : Out × St) : Prop := (∀ i, p.1 ≠ .exit i) ∧ finF F180 [.ptr [0] 0 0] p.2 = some (.d (.int .u64 r.1), [.ptr [.d (.int .u64 r.2)]])
theorem slices_xorshift_Next_ok (r_ : Int) (r : (Int × Int)) (h : slices_xorshift_Next r_ = some r) : Runs L F180.body ⟨tmOf [.ptr [0] 0 0] 0, updW (fun _ => none) [([0], some (.cells [.d (.int .u64 r_)] 0))]⟩ (slices_xorshift_Next_Q r_ r) := by
 unfold slices_xorshift_Next at h
 refine Sq <| Ro <| Rc 1 [⟨.d (.int .u64 0), []⟩] <| Rk <| Sq <| Ro <| Rc 10 [vp [0] 0 0, vp [0] 0 0, ⟨.d (.int .u64 r_), []⟩, vp [0] 0 0, vp [0] 0 0, ⟨.d (.int .u64 r_), []⟩, ⟨.d (.int .u64 (shlI .u64 r_ 13)), []⟩, ⟨.d (.int .u64 (bitsOp .xor .u64 r_ (shlI .u64 r_ 13))), []⟩, vp [0] 0 0, ⟨.tup [], [([0], some (.cells [.d (.int .u64 (bitsOp .xor .u64 r_ (shlI .u64 r_ 13)))] 0))]⟩] <| Rk <| Sq <| Ro <| Rc 10 [vp [0] 0 0, vp [0] 0 0, ⟨.d (.int .u64 (bitsOp .xor .u64 r_ (shlI .u64 r_ 13))), []⟩, vp [0] 0 0, vp [0] 0 0, ⟨.d (.int .u64 (bitsOp .xor .u64 r_ (shlI .u64 r_ 13))), []⟩, ⟨.d (.int .u64 (shrI .u64 (bitsOp .xor .u64 r_ (shlI .u64 r_ 13)) 7)), []⟩, ⟨.d (.int .u64 (bitsOp .xor .u64 (bitsOp .xor .u64 r_ (shlI .u64 r_ 13)) (shrI .u64 (bitsOp .xor .u64 r_ (shlI .u64 r_ 13)) 7))), []⟩, vp [0] 0 0, ⟨.tup [], [([0], some (.cells [.d (.int .u64 (bitsOp .xor .u64 (bitsOp .xor .u64 r_ (shlI .u64 r_ 13)) (shrI .u64 (bitsOp .xor .u64 r_ (shlI .u64 r_ 13)) 7)))] 0))]⟩] <| Rk <| Sq <| Ro <| Rc 10 [vp [0] 0 0, vp [0] 0 0, ⟨.d (.int .u64 (bitsOp .xor .u64 (bitsOp .xor .u64 r_ (shlI .u64 r_ 13)) (shrI .u64 (bitsOp .xor .u64 r_ (shlI .u64 r_ 13)) 7))), []⟩, vp [0] 0 0, vp [0] 0 0, ⟨.d (.int .u64 (bitsOp .xor .u64 (bitsOp .xor .u64 r_ (shlI .u64 r_ 13)) (shrI .u64 (bitsOp .xor .u64 r_ (shlI .u64 r_ 13)) 7))), []⟩, ⟨.d (.int .u64 (shlI .u64 (bitsOp .xor .u64 (bitsOp .xor .u64 r_ (shlI .u64 r_ 13)) (shrI .u64 (bitsOp .xor .u64 r_ (shlI .u64 r_ 13)) 7)) 17)), []⟩, ⟨.d (.int .u64 (bitsOp .xor .u64 (bitsOp .xor .u64 (bitsOp .xor .u64 r_ (shlI .u64 r_ 13)) (shrI .u64 (bitsOp .xor .u64 r_ (shlI .u64 r_ 13)) 7)) (shlI .u64 (bitsOp .xor .u64 (bitsOp .xor .u64 r_ (shlI .u64 r_ 13)) (shrI .u64 (bitsOp .xor .u64 r_ (shlI .u64 r_ 13)) 7)) 17))), []⟩, vp [0] 0 0, ⟨.tup [], [([0], some (.cells [.d (.int .u64 (bitsOp .xor .u64 (bitsOp .xor .u64 (bitsOp .xor .u64 r_ (shlI .u64 r_ 13)) (shrI .u64 (bitsOp .xor .u64 r_ (shlI .u64 r_ 13)) 7)) (shlI .u64 (bitsOp .xor .u64 (bitsOp .xor .u64 r_ (shlI .u64 r_ 13)) (shrI .u64 (bitsOp .xor .u64 r_ (shlI .u64 r_ 13)) 7)) 17)))] 0))]⟩] ?_
 refine Rk <| Sq <| Ro <| Rc 4 [vp [0] 0 0, vp [0] 0 0, ⟨.d (.int .u64 (bitsOp .xor .u64 (bitsOp .xor .u64 (bitsOp .xor .u64 r_ (shlI .u64 r_ 13)) (shrI .u64 (bitsOp .xor .u64 r_ (shlI .u64 r_ 13)) 7)) (shlI .u64 (bitsOp .xor .u64 (bitsOp .xor .u64 r_ (shlI .u64 r_ 13)) (shrI .u64 (bitsOp .xor .u64 r_ (shlI .u64 r_ 13)) 7)) 17))), []⟩, ⟨.d (.int .u64 (bitsOp .xor .u64 (bitsOp .xor .u64 (bitsOp .xor .u64 r_ (shlI .u64 r_ 13)) (shrI .u64 (bitsOp .xor .u64 r_ (shlI .u64 r_ 13)) 7)) (shlI .u64 (bitsOp .xor .u64 (bitsOp .xor .u64 r_ (shlI .u64 r_ 13)) (shrI .u64 (bitsOp .xor .u64 r_ (shlI .u64 r_ 13)) 7)) 17))), []⟩] <| Rk <| Runs.ret ?_
 cases h
 exact Fq
theorem slices_xorshift_Next_L (r_ : Int) (r : (Int × Int)) (h : slices_xorshift_Next r_ = some r) : L 180 [.ptr [.d (.int .u64 r_)]] = some (.d (.int .u64 r.1), [.ptr [.d (.int .u64 r.2)]]) := by
 obtain ⟨p, ⟨hne, hf⟩, hr⟩ := slices_xorshift_Next_ok r_ r h
 obtain ⟨k, hk⟩ := run_of (F := F180) (args := [.ptr [.d (.int .u64 r_)]]) (ap := [.ptr [0] 0 0]) (bx0 := updW (fun _ => none) [([0], some (.cells [.d (.int .u64 r_)] 0))]) rfl rfl (by kernel_rfl) ⟨p, ⟨hne, hf⟩, hr⟩
 exact lim_run (k := k) rfl hk
def slices_breakPatternsOrdered_int_h12n (random7 : Int) (data_ : (List Int)) (w_data_ : (List Int)) (a1 : Int) (length6 : Int) (modulus8 : Int) (idx9 : Int) (n_0 : Nat) : St := ⟨tab [(0, .ref [0] 0 0 n_0 1), (1, .i a1), (6, .i length6), (7, .ptr [7] 0 0), (8, .d (.int .u64 modulus8)), (9, .i idx9)], tabB [([0], some (.arr (List.map (D.int .i64) w_data_) 0 false)), ([7], some (.cells [.d (.int .u64 random7)] 0))]⟩
def slices_breakPatternsOrdered_int_h12 (random7 : Int) (data_ : (List Int)) (w_data_ : (List Int)) (a1 : Int) (length6 : Int) (modulus8 : Int) (idx9 : Int) : St := slices_breakPatternsOrdered_int_h12n random7 data_ w_data_ a1 length6 modulus8 idx9 (List.map (D.int .i64) w_data_).length
def slices_breakPatternsOrdered_int_h29 (random7 : Int) (data_ : (List Int)) (w_data_ : (List Int)) (a1 : Int) (length6 : Int) (modulus8 : Int) (idx9 : Int) (other10 : Int) : St := ⟨tab [(0, .ref [0] 0 0 (List.map (D.int .i64) w_data_).length 1), (1, .i a1), (6, .i length6), (7, .ptr [7] 0 0), (8, .d (.int .u64 modulus8)), (9, .i idx9), (10, .i other10)], tabB [([0], some (.arr (List.map (D.int .i64) w_data_) 0 false)), ([7], some (.cells [.d (.int .u64 random7)] 0))]⟩
def slices_breakPatternsOrdered_int_h32 (data_ : (List Int)) (w_data_ : (List Int)) : St := ⟨tab [], tabB [([0], some (.arr (List.map (D.int .i64) w_data_) 0 false))]⟩
def slices_breakPatternsOrdered_int_Q (data_ : (List Int)) (a_ : Int) (b_ : Int) (r : (List Int)) (p : Out × St) : Prop := (∀ i, p.1 ≠ .exit i) ∧ finF F162 [.ref [0] 0 0 (List.map (D.int .i64) data_).length 1, .i a_, .i b_] p.2 = some (.tup [], [.arr false 1 (List.map (D.int .i64) r), .i a_, .i b_])
def slices_breakPatternsOrdered_int_P12 (data_ : (List Int)) (a_ : Int) (b_ : Int) (data_ : (List Int)) (a1 : Int) (length6 : Int) (modulus8 : Int) (e : (List Int)) (p : Out × St) : Prop := p.1 = .exit 0 ∧ ∃ g : Unit, Canon [] [] [[0]] p.2 (slices_breakPatternsOrdered_int_h32 data_ e)
theorem slices_breakPatternsOrdered_int_j29_ok (data_ : (List Int)) (a_ : Int) (b_ : Int) (random7 : Int) (data_ : (List Int)) (w_data_ : (List Int)) (a1 : Int) (length6 : Int) (modulus8 : Int) (idx9 : Int) (other10 : Int) (r : (Lp (Int × (List Int) × Int) (List Int))) (h : slices_breakPatternsOrdered_int_j29 random7 data_ w_data_ a1 length6 modulus8 idx9 other10 = some r) : Runs L F162b29 (slices_breakPatternsOrdered_int_h29 random7 data_ w_data_ a1 length6 modulus8 idx9 other10) (kB 1 (kS L F162c30 (LQ [] [0, 1, 6, 7, 8, 9] [[0], [7]] (fun (x : (Int × (List Int) × Int)) (g : Unit) => slices_breakPatternsOrdered_int_h12 x.1 data_ x.2.1 a1 length6 modulus8 x.2.2) (slices_breakPatternsOrdered_int_P12 data_ a_ b_ data_ a1 length6 modulus8) r))) := by
 unfold slices_breakPatternsOrdered_int_j29 at h
 refine Ro <| Rc 10 [⟨.ref [0] 0 0 (List.map (D.int .i64) w_data_).length 1, []⟩, vi idx9, ⟨.ref [0] 0 0 (List.map (D.int .i64) w_data_).length 1, []⟩, vi a1, vi other10, vi (IntKind.wrap .i64 (a1 + other10)), ⟨.ref [0] 0 0 (List.map (D.int .i64) w_data_).length 1, []⟩, vi a1, vi other10, vi (IntKind.wrap .i64 (a1 + other10))] ?_
 obtain ⟨z_1, hz_1, h⟩ := bind_s h
 refine Rt (some 57) (.iaddrS 1) [] none [.ref [0] 0 0 (List.map (D.int .i64) w_data_).length 1, .i (IntKind.wrap .i64 (a1 + other10))] (.eref [0] 0 (0 + ((IntKind.wrap .i64 (a1 + other10))).toNat) 0) [] (cut_atR (e := (D.int .i64)) (l := w_data_) hz_1 rfl) <| Rt (some 58) (.load none) [] none [.eref [0] 0 (0 + ((IntKind.wrap .i64 (a1 + other10))).toNat) 0] (.i z_1) [] (cut_loadR (e := (D.int .i64)) (l := w_data_) (fz := false) (y := z_1) (by kernel_rfl) hz_1 (by kernel_rfl) (by kernel_rfl)) <| Rc 2 [⟨.ref [0] 0 0 (List.map (D.int .i64) w_data_).length 1, []⟩, vi idx9] ?_
 obtain ⟨z_2, hz_2, h⟩ := bind_s h
 refine Rt (some 61) (.iaddrS 1) [] none [.ref [0] 0 0 (List.map (D.int .i64) w_data_).length 1, .i idx9] (.eref [0] 0 (0 + (idx9).toNat) 0) [] (cut_atR (e := (D.int .i64)) (l := w_data_) hz_2 rfl) <| Rt (some 62) (.load none) [] none [.eref [0] 0 (0 + (idx9).toNat) 0] (.i z_2) [] (cut_loadR (e := (D.int .i64)) (l := w_data_) (fz := false) (y := z_2) (by kernel_rfl) hz_2 (by kernel_rfl) (by kernel_rfl)) ?_
 obtain ⟨z_3, hz_3, h⟩ := bind_s h
 refine Rt (some 63) (.iaddrS 1) [] none [.ref [0] 0 0 (List.map (D.int .i64) w_data_).length 1, .i idx9] (.eref [0] 0 (0 + (idx9).toNat) 0) [] (cut_atR (e := (D.int .i64)) (l := w_data_) hz_3 rfl) <| Rt none (.store 1) [] none [.eref [0] 0 (0 + (idx9).toNat) 0, .i z_1] (.tup []) [([0], some (.arr (List.map (D.int .i64) (List.set w_data_ (idx9).toNat z_1)) 0 false))] (cut_setR (e := (D.int .i64)) (l := w_data_) (y := z_3) (y' := z_1) (ds := [.int .i64 z_1]) (by kernel_rfl) hz_3 (by kernel_rfl) (by kernel_rfl) (by kernel_rfl) (by kernel_rfl)) ?_
 obtain ⟨z_4, hz_4, h⟩ := bind_s h
 refine Rt (some 64) (.iaddrS 1) [] none [.ref [0] 0 0 (List.map (D.int .i64) w_data_).length 1, .i (IntKind.wrap .i64 (a1 + other10))] (.eref [0] 0 (0 + ((IntKind.wrap .i64 (a1 + other10))).toNat) 0) [] (cut_atR (e := (D.int .i64)) (l := (List.set w_data_ (idx9).toNat z_1)) hz_4 (by simp only [List.length_map, List.length_set, cpy_length] : (List.map (D.int .i64) w_data_).length = (List.map (D.int .i64) (List.set w_data_ (idx9).toNat z_1)).length)) <| Rt none (.store 1) [] none [.eref [0] 0 (0 + ((IntKind.wrap .i64 (a1 + other10))).toNat) 0, .i z_2] (.tup []) [([0], some (.arr (List.map (D.int .i64) (List.set (List.set w_data_ (idx9).toNat z_1) ((IntKind.wrap .i64 (a1 + other10))).toNat z_2)) 0 false))] (cut_setR (e := (D.int .i64)) (l := (List.set w_data_ (idx9).toNat z_1)) (y := z_4) (y' := z_2) (ds := [.int .i64 z_2]) (by kernel_rfl) hz_4 (by kernel_rfl) (by kernel_rfl) (by kernel_rfl) (by kernel_rfl)) <| Rd <| kB_nrm <| kS_nrm <| Ro <| Rc 3 [vi idx9, vi (IntKind.wrap .i64 (idx9 + 1)), vi (IntKind.wrap .i64 (idx9 + 1))] <| Rd ?_
 obtain rfl := sj h
 exact ⟨rfl, (), (Canon.len (f := fun n => slices_breakPatternsOrdered_int_h12n random7 data_ (List.set (List.set w_data_ (idx9).toNat z_1) ((IntKind.wrap .i64 (a1 + other10))).toNat z_2) a1 length6 modulus8 (IntKind.wrap .i64 (idx9 + 1)) n) ((by simp only [List.length_map, List.length_set, cpy_length] : (List.map (D.int .i64) w_data_).length = (List.map (D.int .i64) (List.set (List.set w_data_ (idx9).toNat z_1) ((IntKind.wrap .i64 (a1 + other10))).toNat z_2)).length)).symm Cz)⟩
theorem slices_breakPatternsOrdered_int_l12_ok (data_ : (List Int)) (a_ : Int) (b_ : Int) (random7 : Int) (data_ : (List Int)) (w_data_ : (List Int)) (a1 : Int) (length6 : Int) (modulus8 : Int) (idx9 : Int) (r : (Lp (Int × (List Int) × Int) (List Int))) (h : slices_breakPatternsOrdered_int_l12 random7 data_ w_data_ a1 length6 modulus8 idx9 = some r) : Runs L F162l12 (slices_breakPatternsOrdered_int_h12 random7 data_ w_data_ a1 length6 modulus8 idx9) (LQ [] [0, 1, 6, 7, 8, 9] [[0], [7]] (fun (x : (Int × (List Int) × Int)) (g : Unit) => slices_breakPatternsOrdered_int_h12 x.1 data_ x.2.1 a1 length6 modulus8 x.2.2) (slices_breakPatternsOrdered_int_P12 data_ a_ b_ data_ a1 length6 modulus8) r) := by
 unfold slices_breakPatternsOrdered_int_l12 at h
 refine Sq <| Sq <| Ro <| Rc 8 [vi idx9, vi a1, vi length6, vi (IntKind.wrap .i64 (Int.tdiv length6 4)), vi (IntKind.wrap .i64 ((IntKind.wrap .i64 (Int.tdiv length6 4)) * 2)), vi (IntKind.wrap .i64 (a1 + (IntKind.wrap .i64 ((IntKind.wrap .i64 (Int.tdiv length6 4)) * 2)))), vi (IntKind.wrap .i64 ((IntKind.wrap .i64 (a1 + (IntKind.wrap .i64 ((IntKind.wrap .i64 (Int.tdiv length6 4)) * 2)))) + 1)), vb (decide (idx9 ≤ (IntKind.wrap .i64 ((IntKind.wrap .i64 (a1 + (IntKind.wrap .i64 ((IntKind.wrap .i64 (Int.tdiv length6 4)) * 2)))) + 1))))] <| Rk ?_
 cases hb_2 : ((decide (idx9 ≤ (IntKind.wrap .i64 ((IntKind.wrap .i64 (a1 + (IntKind.wrap .i64 ((IntKind.wrap .i64 (Int.tdiv length6 4)) * 2)))) + 1)))) : Bool) with
 | true =>
  replace h := ite_t hb_2 h
  refine Ct <| Runs.skip <| kS_nrm <| Sq <| Runs.block <| Sq <| Ro ?_
  obtain ⟨r_2, hr_2, h⟩ := bind_s h
  have hc_2 := slices_xorshift_Next_L random7 r_2 hr_2
  refine Rt (some 36) (.callf 180) [] none [.ptr [7] 0 0] (.d (.int .u64 r_2.1)) [([7], some (.cells [.d (.int .u64 r_2.2)] 0))] (cut_call (call_of (ws := []) (us := [([7], some (.cells [.d (.int .u64 r_2.2)] 0))]) (by kernel_rfl) (by kernel_rfl) hc_2 (by kernel_rfl) (by kernel_rfl))) <| Rc 5 [⟨.d (.int .u64 modulus8), []⟩, ⟨.d (.int .u64 (IntKind.wrap .u64 (modulus8 - 1))), []⟩, ⟨.d (.int .u64 (bitsOp .and .u64 r_2.1 (IntKind.wrap .u64 (modulus8 - 1)))), []⟩, vi (IntKind.wrap .i64 (bitsOp .and .u64 r_2.1 (IntKind.wrap .u64 (modulus8 - 1)))), vi (IntKind.wrap .i64 (bitsOp .and .u64 r_2.1 (IntKind.wrap .u64 (modulus8 - 1))))] <| Rk <| Sq <| Sq <| Ro <| Rc 3 [vi (IntKind.wrap .i64 (bitsOp .and .u64 r_2.1 (IntKind.wrap .u64 (modulus8 - 1)))), vi length6, vb (decide ((IntKind.wrap .i64 (bitsOp .and .u64 r_2.1 (IntKind.wrap .u64 (modulus8 - 1)))) ≥ length6))] <| Rk ?_
  cases hb_3 : ((decide ((IntKind.wrap .i64 (bitsOp .and .u64 r_2.1 (IntKind.wrap .u64 (modulus8 - 1)))) ≥ length6)) : Bool) with
  | true =>
   replace h := ite_t hb_3 h
   refine Ct <| Ro <| Rc 4 [vi (IntKind.wrap .i64 (bitsOp .and .u64 r_2.1 (IntKind.wrap .u64 (modulus8 - 1)))), vi length6, vi (IntKind.wrap .i64 ((IntKind.wrap .i64 (bitsOp .and .u64 r_2.1 (IntKind.wrap .u64 (modulus8 - 1)))) - length6)), vi (IntKind.wrap .i64 ((IntKind.wrap .i64 (bitsOp .and .u64 r_2.1 (IntKind.wrap .u64 (modulus8 - 1)))) - length6))] <| Rk <| Runs.canon (slices_breakPatternsOrdered_int_h29 r_2.2 data_ w_data_ a1 length6 modulus8 idx9 (IntKind.wrap .i64 ((IntKind.wrap .i64 (bitsOp .and .u64 r_2.1 (IntKind.wrap .u64 (modulus8 - 1)))) - length6))) Cz ?_
   exact slices_breakPatternsOrdered_int_j29_ok data_ a_ b_ r_2.2 data_ w_data_ a1 length6 modulus8 idx9 (IntKind.wrap .i64 ((IntKind.wrap .i64 (bitsOp .and .u64 r_2.1 (IntKind.wrap .u64 (modulus8 - 1)))) - length6)) r h
  | false =>
   replace h := ite_f hb_3 h
   refine Cf <| Runs.skip <| kS_nrm <| Runs.canon (slices_breakPatternsOrdered_int_h29 r_2.2 data_ w_data_ a1 length6 modulus8 idx9 (IntKind.wrap .i64 (bitsOp .and .u64 r_2.1 (IntKind.wrap .u64 (modulus8 - 1))))) Cz ?_
   exact slices_breakPatternsOrdered_int_j29_ok data_ a_ b_ r_2.2 data_ w_data_ a1 length6 modulus8 idx9 (IntKind.wrap .i64 (bitsOp .and .u64 r_2.1 (IntKind.wrap .u64 (modulus8 - 1)))) r h
 | false =>
  replace h := ite_f hb_2 h
  refine Cf <| Runs.exit <| kS_exit ?_
  obtain rfl := sj h
  exact ⟨nofun, rfl, (), Cz⟩
theorem slices_breakPatternsOrdered_int_ok (data_ : (List Int)) (a_ : Int) (b_ : Int) (r : (List Int)) (h : slices_breakPatternsOrdered_int data_ a_ b_ = some r) : Runs L F162.body ⟨tmOf [.ref [0] 0 0 (List.map (D.int .i64) data_).length 1, .i a_, .i b_] 0, updW (fun _ => none) [([0], some (.arr (List.map (D.int .i64) data_) 0 false))]⟩ (slices_breakPatternsOrdered_int_Q data_ a_ b_ r) := by
 unfold slices_breakPatternsOrdered_int at h
 refine Sq <| Sq <| Sq <| Ro <| Rc 4 [vi b_, vi a_, vi (IntKind.wrap .i64 (b_ - a_)), vi (IntKind.wrap .i64 (b_ - a_))] <| Rk <| Sq <| Ro <| Rc 2 [vi (IntKind.wrap .i64 (b_ - a_)), vb (decide ((IntKind.wrap .i64 (b_ - a_)) ≥ 8))] <| Rk ?_
 cases hb_1 : ((decide ((IntKind.wrap .i64 (b_ - a_)) ≥ 8)) : Bool) with
 | true =>
  replace h := ite_t hb_1 h
  refine Ct <| Sq <| Ro <| Rc 4 [vi (IntKind.wrap .i64 (b_ - a_)), ⟨.d (.int .u64 (IntKind.wrap .u64 (IntKind.wrap .i64 (b_ - a_)))), []⟩, ⟨.ptr [7] 0 0, [([7], some (.cells [.d (.int .u64 0)] 0))]⟩, ⟨.tup [], [([7], some (.cells [.d (.int .u64 (IntKind.wrap .u64 (IntKind.wrap .i64 (b_ - a_))))] 0))]⟩] <| Rk <| Sq <| Ro <| Rc 1 [vi (IntKind.wrap .i64 (b_ - a_))] ?_
  obtain ⟨r_1, hr_1, h⟩ := bind_s h
  have hc_1 := slices_nextPowerOfTwo_L (IntKind.wrap .i64 (b_ - a_)) r_1 hr_1
  refine Rt (some 19) (.callf 179) [] none [.i (IntKind.wrap .i64 (b_ - a_))] (.d (.int .u64 r_1)) [] (cc hc_1) <| Rc 1 [⟨.d (.int .u64 r_1), []⟩] <| Rk <| Sq <| Ro <| Rc 7 [vi a_, vi (IntKind.wrap .i64 (b_ - a_)), vi (IntKind.wrap .i64 (Int.tdiv (IntKind.wrap .i64 (b_ - a_)) 4)), vi (IntKind.wrap .i64 ((IntKind.wrap .i64 (Int.tdiv (IntKind.wrap .i64 (b_ - a_)) 4)) * 2)), vi (IntKind.wrap .i64 (a_ + (IntKind.wrap .i64 ((IntKind.wrap .i64 (Int.tdiv (IntKind.wrap .i64 (b_ - a_)) 4)) * 2)))), vi (IntKind.wrap .i64 ((IntKind.wrap .i64 (a_ + (IntKind.wrap .i64 ((IntKind.wrap .i64 (Int.tdiv (IntKind.wrap .i64 (b_ - a_)) 4)) * 2)))) - 1)), vi (IntKind.wrap .i64 ((IntKind.wrap .i64 (a_ + (IntKind.wrap .i64 ((IntKind.wrap .i64 (Int.tdiv (IntKind.wrap .i64 (b_ - a_)) 4)) * 2)))) - 1))] <| Rk <| Runs.block ?_
  obtain ⟨e_1, he_1, h⟩ := bind_s h
  refine Runs.loop (fun x : (Int × (List Int) × Int) => slices_breakPatternsOrdered_int_l12 x.1 data_ x.2.1 a_ (IntKind.wrap .i64 (b_ - a_)) r_1 x.2.2) (fun (x : (Int × (List Int) × Int)) (g : Unit) => slices_breakPatternsOrdered_int_h12 x.1 data_ x.2.1 a_ (IntKind.wrap .i64 (b_ - a_)) r_1 x.2.2) (slices_breakPatternsOrdered_int_P12 data_ a_ b_ data_ a_ (IntKind.wrap .i64 (b_ - a_)) r_1) (fun x g r hr => slices_breakPatternsOrdered_int_l12_ok data_ a_ b_ x.1 data_ x.2.1 a_ (IntKind.wrap .i64 (b_ - a_)) r_1 x.2.2  r hr) () he_1 Cz ?_
  rintro ⟨o, s⟩ hp
  obtain ⟨ho, g_1, hk_1⟩ := hp
  have ho' : o = .exit 0 := ho
  subst ho'
  refine kB_hit <| kS_nrm <| Runs.canon _ hk_1 <| Runs.skip <| kS_nrm <| Runs.gnil ?_
  try dsimp only at h
  by_cases hlw0 : e_1.length = data_.length
  case neg => rw [if_neg hlw0] at h; cases h
  rw [if_pos hlw0] at h
  obtain rfl := sj h
  exact ⟨Out.nrm_ne, (fin_ofL (rs := []) (by kernel_rfl) (map_cons_ (lendP_of (fz := false) (es := List.map (D.int .i64) e_1) (by kernel_rfl) (by rw [List.length_map, List.length_map, hlw0] : (List.map (D.int .i64) data_).length = (List.map (D.int .i64) e_1).length) (by decide)) (map_cons_ rfl (map_cons_ rfl map_nil_))) (by kernel_rfl) outs_nil (gives_cons (give_lref (fz := false) (es := List.map (D.int .i64) e_1) (by kernel_rfl) (by rw [List.length_map, List.length_map, hlw0] : (List.map (D.int .i64) data_).length = (List.map (D.int .i64) e_1).length) (by kernel_rfl) (by decide)) (gives_cons (give_same (by kernel_rfl)) (gives_cons (give_same (by kernel_rfl)) gives_nil))))⟩
 | false =>
  replace h := ite_f hb_1 h
  refine Cf <| Runs.skip <| kS_nrm <| Runs.canon (slices_breakPatternsOrdered_int_h32 data_ data_) Cz <| Runs.skip <| kS_nrm <| Runs.gnil ?_
  obtain rfl := sj h
  exact ⟨Out.nrm_ne, (fin_ofL (rs := []) (by kernel_rfl) (map_cons_ (lendP_of (fz := false) (es := List.map (D.int .i64) data_) (by kernel_rfl) rfl (by decide)) (map_cons_ rfl (map_cons_ rfl map_nil_))) (by kernel_rfl) outs_nil (gives_cons (give_lref (fz := false) (es := List.map (D.int .i64) data_) (by kernel_rfl) rfl (by kernel_rfl) (by decide)) (gives_cons (give_same (by kernel_rfl)) (gives_cons (give_same (by kernel_rfl)) gives_nil))))⟩
theorem slices_breakPatternsOrdered_int_L (data_ : (List Int)) (a_ : Int) (b_ : Int) (r : (List Int)) (h : slices_breakPatternsOrdered_int data_ a_ b_ = some r) : L 162 [.arr false 1 (List.map (D.int .i64) data_), .i a_, .i b_] = some (.tup [], [.arr false 1 (List.map (D.int .i64) r), .i a_, .i b_]) := by
 obtain ⟨p, ⟨hne, hf⟩, hr⟩ := slices_breakPatternsOrdered_int_ok data_ a_ b_ r h
 obtain ⟨k, hk⟩ := run_of (F := F162) (args := [.arr false 1 (List.map (D.int .i64) data_), .i a_, .i b_]) (ap := [.ref [0] 0 0 (List.map (D.int .i64) data_).length 1, .i a_, .i b_]) (bx0 := updW (fun _ => none) [([0], some (.arr (List.map (D.int .i64) data_) 0 false))]) rfl rfl (by kernel_rfl) ⟨p, ⟨hne, hf⟩, hr⟩
 exact lim_run (k := k) rfl hk
def slices_order2Ordered_int_Q (data_ : (List Int)) (a_ : Int) (b_ : Int) (swaps_ : Int) (r : (Int × Int × Int)) (p : Out × St) : Prop := (∀ i, p.1 ≠ .exit i) ∧ finF F188 [.ref [0] 0 0 (List.map (D.int .i64) data_).length 1, .i a_, .i b_, .ptr [3] 0 0] p.2 = some (.tup [.i r.1, .i r.2.1], [.arr false 1 (List.map (D.int .i64) data_), .i a_, .i b_, .ptr [.i r.2.2]])
theorem slices_order2Ordered_int_ok (data_ : (List Int)) (a_ : Int) (b_ : Int) (swaps_ : Int) (r : (Int × Int × Int)) (h : slices_order2Ordered_int data_ a_ b_ swaps_ = some r) : Runs L F188.body ⟨tmOf [.ref [0] 0 0 (List.map (D.int .i64) data_).length 1, .i a_, .i b_, .ptr [3] 0 0] 0, updW (fun _ => none) [([0], some (.arr (List.map (D.int .i64) data_) 0 false)), ([3], some (.cells [.i swaps_] 0))]⟩ (slices_order2Ordered_int_Q data_ a_ b_ swaps_ r) := by
 unfold slices_order2Ordered_int at h
 refine Sq <| Ro <| Rc 2 [vi 0, vi 0] <| Rk <| Sq <| Sq <| Ro <| Rc 2 [⟨.ref [0] 0 0 (List.map (D.int .i64) data_).length 1, []⟩, vi b_] ?_
 obtain ⟨z_1, hz_1, h⟩ := bind_s h
 refine Rt (some 12) (.iaddrS 1) [] none [.ref [0] 0 0 (List.map (D.int .i64) data_).length 1, .i b_] (.eref [0] 0 (0 + (b_).toNat) 0) [] (cut_atR (e := (D.int .i64)) (l := data_) hz_1 rfl) <| Rt (some 13) (.load none) [] none [.eref [0] 0 (0 + (b_).toNat) 0] (.i z_1) [] (cut_loadR (e := (D.int .i64)) (l := data_) (fz := false) (y := z_1) (by kernel_rfl) hz_1 (by kernel_rfl) (by kernel_rfl)) <| Rc 2 [⟨.ref [0] 0 0 (List.map (D.int .i64) data_).length 1, []⟩, vi a_] ?_
 obtain ⟨z_2, hz_2, h⟩ := bind_s h
 refine Rt (some 16) (.iaddrS 1) [] none [.ref [0] 0 0 (List.map (D.int .i64) data_).length 1, .i a_] (.eref [0] 0 (0 + (a_).toNat) 0) [] (cut_atR (e := (D.int .i64)) (l := data_) hz_2 rfl) <| Rt (some 17) (.load none) [] none [.eref [0] 0 (0 + (a_).toNat) 0] (.i z_2) [] (cut_loadR (e := (D.int .i64)) (l := data_) (fz := false) (y := z_2) (by kernel_rfl) hz_2 (by kernel_rfl) (by kernel_rfl)) ?_
 obtain ⟨r_1, hr_1, h⟩ := bind_s h
 have hc_1 := cmp_Less_int_L z_1 z_2 r_1 hr_1
 refine Rt (some 18) (.callf 166) [] none [.i z_1, .i z_2] (.b r_1) [] (cc hc_1) <| Rk ?_
 cases hb_1 : (r_1 : Bool) with
 | true =>
  replace h := ite_t hb_1 h
  refine Ct <| Sq <| Ro <| Rc 6 [vp [3] 0 0, vp [3] 0 0, vi swaps_, vi (IntKind.wrap .i64 (swaps_ + 1)), vp [3] 0 0, ⟨.tup [], [([3], some (.cells [.i (IntKind.wrap .i64 (swaps_ + 1))] 0))]⟩] <| Rk <| Sq <| Ro <| Rc 4 [vi b_, vi a_, vi b_, vi a_] <| Rk <| Runs.ret <| kS_ret ?_
  obtain rfl := sj h
  exact ⟨Out.ret_ne, (fin_ofL (rs := [.i b_, .i a_]) (by kernel_rfl) (map_cons_ (lendP_of (fz := false) (es := List.map (D.int .i64) data_) (by kernel_rfl) rfl (by decide)) (map_cons_ rfl (map_cons_ rfl (map_cons_ rfl map_nil_)))) (by kernel_rfl) (outs_d (outs_d outs_nil)) (gives_cons (give_lref (fz := false) (es := List.map (D.int .i64) data_) (by kernel_rfl) rfl (by kernel_rfl) (by decide)) (gives_cons (give_same (by kernel_rfl)) (gives_cons (give_same (by kernel_rfl)) (gives_cons (give_ptr (by kernel_rfl) (by kernel_rfl) (gcs_d gcs_nil)) gives_nil)))))⟩
 | false =>
  replace h := ite_f hb_1 h
  refine Cf <| Runs.skip <| kS_nrm <| Sq <| Ro <| Rc 4 [vi a_, vi b_, vi a_, vi b_] <| Rk <| Runs.ret ?_
  obtain rfl := sj h
  exact ⟨Out.ret_ne, (fin_ofL (rs := [.i a_, .i b_]) (by kernel_rfl) (map_cons_ (lendP_of (fz := false) (es := List.map (D.int .i64) data_) (by kernel_rfl) rfl (by decide)) (map_cons_ rfl (map_cons_ rfl (map_cons_ rfl map_nil_)))) (by kernel_rfl) (outs_d (outs_d outs_nil)) (gives_cons (give_lref (fz := false) (es := List.map (D.int .i64) data_) (by kernel_rfl) rfl (by kernel_rfl) (by decide)) (gives_cons (give_same (by kernel_rfl)) (gives_cons (give_same (by kernel_rfl)) (gives_cons (give_ptr (by kernel_rfl) (by kernel_rfl) (gcs_d gcs_nil)) gives_nil)))))⟩
theorem slices_order2Ordered_int_L (data_ : (List Int)) (a_ : Int) (b_ : Int) (swaps_ : Int) (r : (Int × Int × Int)) (h : slices_order2Ordered_int data_ a_ b_ swaps_ = some r) : L 188 [.arr false 1 (List.map (D.int .i64) data_), .i a_, .i b_, .ptr [.i swaps_]] = some (.tup [.i r.1, .i r.2.1], [.arr false 1 (List.map (D.int .i64) data_), .i a_, .i b_, .ptr [.i r.2.2]]) := by
 obtain ⟨p, ⟨hne, hf⟩, hr⟩ := slices_order2Ordered_int_ok data_ a_ b_ swaps_ r h
 obtain ⟨k, hk⟩ := run_of (F := F188) (args := [.arr false 1 (List.map (D.int .i64) data_), .i a_, .i b_, .ptr [.i swaps_]]) (ap := [.ref [0] 0 0 (List.map (D.int .i64) data_).length 1, .i a_, .i b_, .ptr [3] 0 0]) (bx0 := updW (fun _ => none) [([0], some (.arr (List.map (D.int .i64) data_) 0 false)), ([3], some (.cells [.i swaps_] 0))]) rfl rfl (by kernel_rfl) ⟨p, ⟨hne, hf⟩, hr⟩
 exact lim_run (k := k) rfl hk
def slices_medianOrdered_int_Q (data_ : (List Int)) (a_ : Int) (b_ : Int) (c_ : Int) (swaps_ : Int) (r : (Int × Int)) (p : Out × St) : Prop := (∀ i, p.1 ≠ .exit i) ∧ finF F182 [.ref [0] 0 0 (List.map (D.int .i64) data_).length 1, .i a_, .i b_, .i c_, .ptr [4] 0 0] p.2 = some (.i r.1, [.arr false 1 (List.map (D.int .i64) data_), .i a_, .i b_, .i c_, .ptr [.i r.2]])
theorem slices_medianOrdered_int_ok (data_ : (List Int)) (a_ : Int) (b_ : Int) (c_ : Int) (swaps_ : Int) (r : (Int × Int)) (h : slices_medianOrdered_int data_ a_ b_ c_ swaps_ = some r) : Runs L F182.body ⟨tmOf [.ref [0] 0 0 (List.map (D.int .i64) data_).length 1, .i a_, .i b_, .i c_, .ptr [4] 0 0] 0, updW (fun _ => none) [([0], some (.arr (List.map (D.int .i64) data_) 0 false)), ([4], some (.cells [.i swaps_] 0))]⟩ (slices_medianOrdered_int_Q data_ a_ b_ c_ swaps_ r) := by
 unfold slices_medianOrdered_int at h
 refine Sq <| Ro <| Rc 1 [vi 0] <| Rk <| Sq <| Ro <| Rc 4 [⟨.ref [0] 0 0 (List.map (D.int .i64) data_).length 1, []⟩, vi a_, vi b_, vp [4] 0 0] ?_
 obtain ⟨r_1, hr_1, h⟩ := bind_s h
 have hc_1 := slices_order2Ordered_int_L data_ a_ b_ swaps_ r_1 hr_1
 have hn_1 := lim_len (F := tab1) (X := fun _ _ => none) hc_1 (show tab1 188 = some F188 from by kernel_rfl) rfl 0 rfl (by decide) rfl
 refine Rt (some 16) (.callf 188) [] none [.lref [0] 0 0 (List.map (D.int .i64) data_).length 1, .i a_, .i b_, .ptr [4] 0 0] (.tup [.i r_1.1, .i r_1.2.1]) [([0], some (.arr (List.map (D.int .i64) data_) 0 false)), ([4], some (.cells [.i r_1.2.2] 0))] (cut_call (call_ofL (ws := []) (us := [([0], some (.arr (List.map (D.int .i64) data_) 0 false)), ([4], some (.cells [.i r_1.2.2] 0))]) (by kernel_rfl) (map_cons_ (lendX_of (fz := false) (es := List.map (D.int .i64) data_) (by kernel_rfl) (by kernel_rfl) rfl (by decide)) (map_cons_ rfl (map_cons_ rfl (map_cons_ rfl map_nil_)))) (gives_cons (ws := []) (give_lref (fz := false) (es := List.map (D.int .i64) data_) (by kernel_rfl) rfl (by kernel_rfl) (by decide)) (gives_cons (ws := []) (give_same (by kernel_rfl)) (gives_cons (ws := []) (give_same (by kernel_rfl)) (gives_cons (ws := []) (give_ptr (by kernel_rfl) (by kernel_rfl) (gcs_d gcs_nil)) gives_nil)))) hc_1 (backs_cons_ (ws := [([0], some (.arr (List.map (D.int .i64) data_) 0 false))]) (back_lref (f0 := false) (es0 := List.map (D.int .i64) data_) (by kernel_rfl) hn_1) (backs_cons_ (ws := []) (by kernel_rfl) (backs_cons_ (ws := []) (by kernel_rfl) (backs_cons_ (ws := [([4], some (.cells [.i r_1.2.2] 0))]) (by kernel_rfl) backs_nil_)))) (by kernel_rfl))) <| Rc 5 [⟨.tup [.i r_1.1, .i r_1.2.1], []⟩, vi r_1.1, vi r_1.2.1, vi r_1.1, vi r_1.2.1] ?_
 refine Rk <| Sq <| Ro <| Rc 4 [⟨.ref [0] 0 0 (List.map (D.int .i64) data_).length 1, []⟩, vi r_1.2.1, vi c_, vp [4] 0 0] ?_
 obtain ⟨r_2, hr_2, h⟩ := bind_s h
 have hc_2 := slices_order2Ordered_int_L data_ r_1.2.1 c_ r_1.2.2 r_2 hr_2
 have hn_2 := lim_len (F := tab1) (X := fun _ _ => none) hc_2 (show tab1 188 = some F188 from by kernel_rfl) rfl 0 rfl (by decide) rfl
 refine Rt (some 24) (.callf 188) [] none [.lref [0] 0 0 (List.map (D.int .i64) data_).length 1, .i r_1.2.1, .i c_, .ptr [4] 0 0] (.tup [.i r_2.1, .i r_2.2.1]) [([0], some (.arr (List.map (D.int .i64) data_) 0 false)), ([4], some (.cells [.i r_2.2.2] 0))] (cut_call (call_ofL (ws := []) (us := [([0], some (.arr (List.map (D.int .i64) data_) 0 false)), ([4], some (.cells [.i r_2.2.2] 0))]) (by kernel_rfl) (map_cons_ (lendX_of (fz := false) (es := List.map (D.int .i64) data_) (by kernel_rfl) (by kernel_rfl) rfl (by decide)) (map_cons_ rfl (map_cons_ rfl (map_cons_ rfl map_nil_)))) (gives_cons (ws := []) (give_lref (fz := false) (es := List.map (D.int .i64) data_) (by kernel_rfl) rfl (by kernel_rfl) (by decide)) (gives_cons (ws := []) (give_same (by kernel_rfl)) (gives_cons (ws := []) (give_same (by kernel_rfl)) (gives_cons (ws := []) (give_ptr (by kernel_rfl) (by kernel_rfl) (gcs_d gcs_nil)) gives_nil)))) hc_2 (backs_cons_ (ws := [([0], some (.arr (List.map (D.int .i64) data_) 0 false))]) (back_lref (f0 := false) (es0 := List.map (D.int .i64) data_) (by kernel_rfl) hn_2) (backs_cons_ (ws := []) (by kernel_rfl) (backs_cons_ (ws := []) (by kernel_rfl) (backs_cons_ (ws := [([4], some (.cells [.i r_2.2.2] 0))]) (by kernel_rfl) backs_nil_)))) (by kernel_rfl))) <| Rc 5 [⟨.tup [.i r_2.1, .i r_2.2.1], []⟩, vi r_2.1, vi r_2.2.1, vi r_2.1, vi r_2.2.1] ?_
 refine Rk <| Sq <| Ro <| Rc 4 [⟨.ref [0] 0 0 (List.map (D.int .i64) data_).length 1, []⟩, vi r_1.1, vi r_2.1, vp [4] 0 0] ?_
 obtain ⟨r_3, hr_3, h⟩ := bind_s h
 have hc_3 := slices_order2Ordered_int_L data_ r_1.1 r_2.1 r_2.2.2 r_3 hr_3
 have hn_3 := lim_len (F := tab1) (X := fun _ _ => none) hc_3 (show tab1 188 = some F188 from by kernel_rfl) rfl 0 rfl (by decide) rfl
 refine Rt (some 32) (.callf 188) [] none [.lref [0] 0 0 (List.map (D.int .i64) data_).length 1, .i r_1.1, .i r_2.1, .ptr [4] 0 0] (.tup [.i r_3.1, .i r_3.2.1]) [([0], some (.arr (List.map (D.int .i64) data_) 0 false)), ([4], some (.cells [.i r_3.2.2] 0))] (cut_call (call_ofL (ws := []) (us := [([0], some (.arr (List.map (D.int .i64) data_) 0 false)), ([4], some (.cells [.i r_3.2.2] 0))]) (by kernel_rfl) (map_cons_ (lendX_of (fz := false) (es := List.map (D.int .i64) data_) (by kernel_rfl) (by kernel_rfl) rfl (by decide)) (map_cons_ rfl (map_cons_ rfl (map_cons_ rfl map_nil_)))) (gives_cons (ws := []) (give_lref (fz := false) (es := List.map (D.int .i64) data_) (by kernel_rfl) rfl (by kernel_rfl) (by decide)) (gives_cons (ws := []) (give_same (by kernel_rfl)) (gives_cons (ws := []) (give_same (by kernel_rfl)) (gives_cons (ws := []) (give_ptr (by kernel_rfl) (by kernel_rfl) (gcs_d gcs_nil)) gives_nil)))) hc_3 (backs_cons_ (ws := [([0], some (.arr (List.map (D.int .i64) data_) 0 false))]) (back_lref (f0 := false) (es0 := List.map (D.int .i64) data_) (by kernel_rfl) hn_3) (backs_cons_ (ws := []) (by kernel_rfl) (backs_cons_ (ws := []) (by kernel_rfl) (backs_cons_ (ws := [([4], some (.cells [.i r_3.2.2] 0))]) (by kernel_rfl) backs_nil_)))) (by kernel_rfl))) <| Rc 5 [⟨.tup [.i r_3.1, .i r_3.2.1], []⟩, vi r_3.1, vi r_3.2.1, vi r_3.1, vi r_3.2.1] ?_
 refine Rk <| Sq <| Ro <| Rc 2 [vi r_3.2.1, vi r_3.2.1] <| Rk <| Runs.ret ?_
 obtain rfl := sj h
 exact ⟨Out.ret_ne, (fin_ofL (rs := [.i r_3.2.1]) (by kernel_rfl) (map_cons_ (lendP_of (fz := false) (es := List.map (D.int .i64) data_) (by kernel_rfl) rfl (by decide)) (map_cons_ rfl (map_cons_ rfl (map_cons_ rfl (map_cons_ rfl map_nil_))))) (by kernel_rfl) (outs_d outs_nil) (gives_cons (give_lref (fz := false) (es := List.map (D.int .i64) data_) (by kernel_rfl) rfl (by kernel_rfl) (by decide)) (gives_cons (give_same (by kernel_rfl)) (gives_cons (give_same (by kernel_rfl)) (gives_cons (give_same (by kernel_rfl)) (gives_cons (give_ptr (by kernel_rfl) (by kernel_rfl) (gcs_d gcs_nil)) gives_nil))))))⟩
theorem slices_medianOrdered_int_L (data_ : (List Int)) (a_ : Int) (b_ : Int) (c_ : Int) (swaps_ : Int) (r : (Int × Int)) (h : slices_medianOrdered_int data_ a_ b_ c_ swaps_ = some r) : L 182 [.arr false 1 (List.map (D.int .i64) data_), .i a_, .i b_, .i c_, .ptr [.i swaps_]] = some (.i r.1, [.arr false 1 (List.map (D.int .i64) data_), .i a_, .i b_, .i c_, .ptr [.i r.2]]) := by
 obtain ⟨p, ⟨hne, hf⟩, hr⟩ := slices_medianOrdered_int_ok data_ a_ b_ c_ swaps_ r h
 obtain ⟨k, hk⟩ := run_of (F := F182) (args := [.arr false 1 (List.map (D.int .i64) data_), .i a_, .i b_, .i c_, .ptr [.i swaps_]]) (ap := [.ref [0] 0 0 (List.map (D.int .i64) data_).length 1, .i a_, .i b_, .i c_, .ptr [4] 0 0]) (bx0 := updW (fun _ => none) [([0], some (.arr (List.map (D.int .i64) data_) 0 false)), ([4], some (.cells [.i swaps_] 0))]) rfl rfl (by kernel_rfl) ⟨p, ⟨hne, hf⟩, hr⟩
 exact lim_run (k := k) rfl hk
def slices_medianAdjacentOrdered_int_Q (data_ : (List Int)) (a_ : Int) (swaps_ : Int) (r : (Int × Int)) (p : Out × St) : Prop := (∀ i, p.1 ≠ .exit i) ∧ finF F181 [.ref [0] 0 0 (List.map (D.int .i64) data_).length 1, .i a_, .ptr [2] 0 0] p.2 = some (.i r.1, [.arr false 1 (List.map (D.int .i64) data_), .i a_, .ptr [.i r.2]])
theorem slices_medianAdjacentOrdered_int_ok (data_ : (List Int)) (a_ : Int) (swaps_ : Int) (r : (Int × Int)) (h : slices_medianAdjacentOrdered_int data_ a_ swaps_ = some r) : Runs L F181.body ⟨tmOf [.ref [0] 0 0 (List.map (D.int .i64) data_).length 1, .i a_, .ptr [2] 0 0] 0, updW (fun _ => none) [([0], some (.arr (List.map (D.int .i64) data_) 0 false)), ([2], some (.cells [.i swaps_] 0))]⟩ (slices_medianAdjacentOrdered_int_Q data_ a_ swaps_ r) := by
 unfold slices_medianAdjacentOrdered_int at h
 refine Sq <| Ro <| Rc 1 [vi 0] <| Rk <| Sq <| Ro <| Rc 7 [⟨.ref [0] 0 0 (List.map (D.int .i64) data_).length 1, []⟩, vi a_, vi (IntKind.wrap .i64 (a_ - 1)), vi a_, vi a_, vi (IntKind.wrap .i64 (a_ + 1)), vp [2] 0 0] ?_
 obtain ⟨r_1, hr_1, h⟩ := bind_s h
 have hc_1 := slices_medianOrdered_int_L data_ (IntKind.wrap .i64 (a_ - 1)) a_ (IntKind.wrap .i64 (a_ + 1)) swaps_ r_1 hr_1
 have hn_1 := lim_len (F := tab1) (X := fun _ _ => none) hc_1 (show tab1 182 = some F182 from by kernel_rfl) rfl 0 rfl (by decide) rfl
 refine Rt (some 14) (.callf 182) [] none [.lref [0] 0 0 (List.map (D.int .i64) data_).length 1, .i (IntKind.wrap .i64 (a_ - 1)), .i a_, .i (IntKind.wrap .i64 (a_ + 1)), .ptr [2] 0 0] (.i r_1.1) [([0], some (.arr (List.map (D.int .i64) data_) 0 false)), ([2], some (.cells [.i r_1.2] 0))] (cut_call (call_ofL (ws := []) (us := [([0], some (.arr (List.map (D.int .i64) data_) 0 false)), ([2], some (.cells [.i r_1.2] 0))]) (by kernel_rfl) (map_cons_ (lendX_of (fz := false) (es := List.map (D.int .i64) data_) (by kernel_rfl) (by kernel_rfl) rfl (by decide)) (map_cons_ rfl (map_cons_ rfl (map_cons_ rfl (map_cons_ rfl map_nil_))))) (gives_cons (ws := []) (give_lref (fz := false) (es := List.map (D.int .i64) data_) (by kernel_rfl) rfl (by kernel_rfl) (by decide)) (gives_cons (ws := []) (give_same (by kernel_rfl)) (gives_cons (ws := []) (give_same (by kernel_rfl)) (gives_cons (ws := []) (give_same (by kernel_rfl)) (gives_cons (ws := []) (give_ptr (by kernel_rfl) (by kernel_rfl) (gcs_d gcs_nil)) gives_nil))))) hc_1 (backs_cons_ (ws := [([0], some (.arr (List.map (D.int .i64) data_) 0 false))]) (back_lref (f0 := false) (es0 := List.map (D.int .i64) data_) (by kernel_rfl) hn_1) (backs_cons_ (ws := []) (by kernel_rfl) (backs_cons_ (ws := []) (by kernel_rfl) (backs_cons_ (ws := []) (by kernel_rfl) (backs_cons_ (ws := [([2], some (.cells [.i r_1.2] 0))]) (by kernel_rfl) backs_nil_))))) (by kernel_rfl))) <| Rc 1 [vi r_1.1] ?_
 refine Rk <| Runs.ret ?_
 obtain rfl := sj h
 exact ⟨Out.ret_ne, (fin_ofL (rs := [.i r_1.1]) (by kernel_rfl) (map_cons_ (lendP_of (fz := false) (es := List.map (D.int .i64) data_) (by kernel_rfl) rfl (by decide)) (map_cons_ rfl (map_cons_ rfl map_nil_))) (by kernel_rfl) (outs_d outs_nil) (gives_cons (give_lref (fz := false) (es := List.map (D.int .i64) data_) (by kernel_rfl) rfl (by kernel_rfl) (by decide)) (gives_cons (give_same (by kernel_rfl)) (gives_cons (give_ptr (by kernel_rfl) (by kernel_rfl) (gcs_d gcs_nil)) gives_nil))))⟩
theorem slices_medianAdjacentOrdered_int_L (data_ : (List Int)) (a_ : Int) (swaps_ : Int) (r : (Int × Int)) (h : slices_medianAdjacentOrdered_int data_ a_ swaps_ = some r) : L 181 [.arr false 1 (List.map (D.int .i64) data_), .i a_, .ptr [.i swaps_]] = some (.i r.1, [.arr false 1 (List.map (D.int .i64) data_), .i a_, .ptr [.i r.2]]) := by
 obtain ⟨p, ⟨hne, hf⟩, hr⟩ := slices_medianAdjacentOrdered_int_ok data_ a_ swaps_ r h
 obtain ⟨k, hk⟩ := run_of (F := F181) (args := [.arr false 1 (List.map (D.int .i64) data_), .i a_, .ptr [.i swaps_]]) (ap := [.ref [0] 0 0 (List.map (D.int .i64) data_).length 1, .i a_, .ptr [2] 0 0]) (bx0 := updW (fun _ => none) [([0], some (.arr (List.map (D.int .i64) data_) 0 false)), ([2], some (.cells [.i swaps_] 0))]) rfl rfl (by kernel_rfl) ⟨p, ⟨hne, hf⟩, hr⟩
 exact lim_run (k := k) rfl hk
def slices_choosePivotOrdered_int_h28 (swaps9 : Int) (data_ : (List Int)) (j11 : Int) : St := ⟨tab [(9, .ptr [9] 0 0), (11, .i j11)], tabB [([0], some (.arr (List.map (D.int .i64) data_) 0 false)), ([9], some (.cells [.i swaps9] 0))]⟩
def slices_choosePivotOrdered_int_Q (data_ : (List Int)) (a_ : Int) (b_ : Int) (r : (Int × Int)) (p : Out × St) : Prop := (∀ i, p.1 ≠ .exit i) ∧ finF F163 [.ref [0] 0 0 (List.map (D.int .i64) data_).length 1, .i a_, .i b_] p.2 = some (.tup [.i r.1, .i r.2], [.arr false 1 (List.map (D.int .i64) data_), .i a_, .i b_])
theorem slices_choosePivotOrdered_int_j28_ok (data_ : (List Int)) (a_ : Int) (b_ : Int) (swaps9 : Int) (data_ : (List Int)) (j11 : Int) (r : (Int × Int)) (h : slices_choosePivotOrdered_int_j28 swaps9 data_ j11 = some r) : Runs L F163b28 (slices_choosePivotOrdered_int_h28 swaps9 data_ j11) (slices_choosePivotOrdered_int_Q data_ a_ b_ r) := by
 unfold slices_choosePivotOrdered_int_j28 at h
 refine Sq <| Ro <| Rc 1 [vi swaps9] <| Rk <| Runs.block <| Sq <| Ro <| Rc 2 [vb (swaps9 == 0), vb (swaps9 == 0)] <| Rk ?_
 cases hb_3 : ((swaps9 == 0) : Bool) with
 | true =>
  replace h := ite_t hb_3 h
  refine Ct <| Sq <| Ro <| Rc 3 [vi j11, vi j11, vi 1] <| Rk <| Runs.ret <| kB_ret ?_
  obtain rfl := sj h
  exact ⟨Out.ret_ne, (fin_ofL (rs := [.i j11, .i 1]) (by kernel_rfl) (map_cons_ (lendP_of (fz := false) (es := List.map (D.int .i64) data_) (by kernel_rfl) rfl (by decide)) (map_cons_ rfl (map_cons_ rfl map_nil_))) (by kernel_rfl) (outs_d (outs_d outs_nil)) (gives_cons (give_lref (fz := false) (es := List.map (D.int .i64) data_) (by kernel_rfl) rfl (by kernel_rfl) (by decide)) (gives_cons (give_same (by kernel_rfl)) (gives_cons (give_same (by kernel_rfl)) gives_nil))))⟩
 | false =>
  replace h := ite_f hb_3 h
  refine Cf <| Sq <| Ro <| Rc 2 [vb (swaps9 == 12), vb (swaps9 == 12)] <| Rk ?_
  cases hb_4 : ((swaps9 == 12) : Bool) with
  | true =>
   replace h := ite_t hb_4 h
   refine Ct <| Sq <| Ro <| Rc 3 [vi j11, vi j11, vi 2] <| Rk <| Runs.ret <| kB_ret ?_
   obtain rfl := sj h
   exact ⟨Out.ret_ne, (fin_ofL (rs := [.i j11, .i 2]) (by kernel_rfl) (map_cons_ (lendP_of (fz := false) (es := List.map (D.int .i64) data_) (by kernel_rfl) rfl (by decide)) (map_cons_ rfl (map_cons_ rfl map_nil_))) (by kernel_rfl) (outs_d (outs_d outs_nil)) (gives_cons (give_lref (fz := false) (es := List.map (D.int .i64) data_) (by kernel_rfl) rfl (by kernel_rfl) (by decide)) (gives_cons (give_same (by kernel_rfl)) (gives_cons (give_same (by kernel_rfl)) gives_nil))))⟩
  | false =>
   replace h := ite_f hb_4 h
   refine Cf <| Sq <| Ro <| Rc 3 [vi j11, vi j11, vi 0] <| Rk <| Runs.ret <| kB_ret ?_
   obtain rfl := sj h
   exact ⟨Out.ret_ne, (fin_ofL (rs := [.i j11, .i 0]) (by kernel_rfl) (map_cons_ (lendP_of (fz := false) (es := List.map (D.int .i64) data_) (by kernel_rfl) rfl (by decide)) (map_cons_ rfl (map_cons_ rfl map_nil_))) (by kernel_rfl) (outs_d (outs_d outs_nil)) (gives_cons (give_lref (fz := false) (es := List.map (D.int .i64) data_) (by kernel_rfl) rfl (by kernel_rfl) (by decide)) (gives_cons (give_same (by kernel_rfl)) (gives_cons (give_same (by kernel_rfl)) gives_nil))))⟩
theorem slices_choosePivotOrdered_int_ok (data_ : (List Int)) (a_ : Int) (b_ : Int) (r : (Int × Int)) (h : slices_choosePivotOrdered_int data_ a_ b_ = some r) : Runs L F163.body ⟨tmOf [.ref [0] 0 0 (List.map (D.int .i64) data_).length 1, .i a_, .i b_] 0, updW (fun _ => none) [([0], some (.arr (List.map (D.int .i64) data_) 0 false))]⟩ (slices_choosePivotOrdered_int_Q data_ a_ b_ r) := by
 unfold slices_choosePivotOrdered_int at h
 refine Sq <| Ro <| Rc 2 [vi 0, vi 0] <| Rk <| Sq <| Ro <| Rc 4 [vi b_, vi a_, vi (IntKind.wrap .i64 (b_ - a_)), vi (IntKind.wrap .i64 (b_ - a_))] <| Rk <| Sq <| Ro <| Rc 1 [⟨.ptr [9] 0 0, [([9], some (.cells [.i 0] 0))]⟩] <| Rk <| Sq <| Ro <| Rc 6 [vi a_, vi (IntKind.wrap .i64 (b_ - a_)), vi (IntKind.wrap .i64 (Int.tdiv (IntKind.wrap .i64 (b_ - a_)) 4)), vi (IntKind.wrap .i64 ((IntKind.wrap .i64 (Int.tdiv (IntKind.wrap .i64 (b_ - a_)) 4)) * 1)), vi (IntKind.wrap .i64 (a_ + (IntKind.wrap .i64 ((IntKind.wrap .i64 (Int.tdiv (IntKind.wrap .i64 (b_ - a_)) 4)) * 1)))), vi (IntKind.wrap .i64 (a_ + (IntKind.wrap .i64 ((IntKind.wrap .i64 (Int.tdiv (IntKind.wrap .i64 (b_ - a_)) 4)) * 1))))] <| Rk <| Sq <| Ro <| Rc 6 [vi a_, vi (IntKind.wrap .i64 (b_ - a_)), vi (IntKind.wrap .i64 (Int.tdiv (IntKind.wrap .i64 (b_ - a_)) 4)), vi (IntKind.wrap .i64 ((IntKind.wrap .i64 (Int.tdiv (IntKind.wrap .i64 (b_ - a_)) 4)) * 2)), vi (IntKind.wrap .i64 (a_ + (IntKind.wrap .i64 ((IntKind.wrap .i64 (Int.tdiv (IntKind.wrap .i64 (b_ - a_)) 4)) * 2)))), vi (IntKind.wrap .i64 (a_ + (IntKind.wrap .i64 ((IntKind.wrap .i64 (Int.tdiv (IntKind.wrap .i64 (b_ - a_)) 4)) * 2))))] ?_
 refine Rk <| Sq <| Ro <| Rc 6 [vi a_, vi (IntKind.wrap .i64 (b_ - a_)), vi (IntKind.wrap .i64 (Int.tdiv (IntKind.wrap .i64 (b_ - a_)) 4)), vi (IntKind.wrap .i64 ((IntKind.wrap .i64 (Int.tdiv (IntKind.wrap .i64 (b_ - a_)) 4)) * 3)), vi (IntKind.wrap .i64 (a_ + (IntKind.wrap .i64 ((IntKind.wrap .i64 (Int.tdiv (IntKind.wrap .i64 (b_ - a_)) 4)) * 3)))), vi (IntKind.wrap .i64 (a_ + (IntKind.wrap .i64 ((IntKind.wrap .i64 (Int.tdiv (IntKind.wrap .i64 (b_ - a_)) 4)) * 3))))] <| Rk <| Sq <| Sq <| Ro <| Rc 2 [vi (IntKind.wrap .i64 (b_ - a_)), vb (decide ((IntKind.wrap .i64 (b_ - a_)) ≥ 8))] <| Rk ?_
 cases hb_1 : ((decide ((IntKind.wrap .i64 (b_ - a_)) ≥ 8)) : Bool) with
 | true =>
  replace h := ite_t hb_1 h
  refine Ct <| Sq <| Sq <| Ro <| Rc 2 [vi (IntKind.wrap .i64 (b_ - a_)), vb (decide ((IntKind.wrap .i64 (b_ - a_)) ≥ 50))] <| Rk ?_
  cases hb_2 : ((decide ((IntKind.wrap .i64 (b_ - a_)) ≥ 50)) : Bool) with
  | true =>
   replace h := ite_t hb_2 h
   refine Ct <| Sq <| Ro <| Rc 2 [⟨.ref [0] 0 0 (List.map (D.int .i64) data_).length 1, []⟩, vi (IntKind.wrap .i64 (a_ + (IntKind.wrap .i64 ((IntKind.wrap .i64 (Int.tdiv (IntKind.wrap .i64 (b_ - a_)) 4)) * 1))))] ?_
   obtain ⟨r_1, hr_1, h⟩ := bind_s h
   have hc_1 := slices_medianAdjacentOrdered_int_L data_ (IntKind.wrap .i64 (a_ + (IntKind.wrap .i64 ((IntKind.wrap .i64 (Int.tdiv (IntKind.wrap .i64 (b_ - a_)) 4)) * 1)))) 0 r_1 hr_1
   have hn_1 := lim_len (F := tab1) (X := fun _ _ => none) hc_1 (show tab1 181 = some F181 from by kernel_rfl) rfl 0 rfl (by decide) rfl
   refine Rt (some 37) (.callf 181) [] none [.lref [0] 0 0 (List.map (D.int .i64) data_).length 1, .i (IntKind.wrap .i64 (a_ + (IntKind.wrap .i64 ((IntKind.wrap .i64 (Int.tdiv (IntKind.wrap .i64 (b_ - a_)) 4)) * 1)))), .ptr [9] 0 0] (.i r_1.1) [([0], some (.arr (List.map (D.int .i64) data_) 0 false)), ([9], some (.cells [.i r_1.2] 0))] (cut_call (call_ofL (ws := []) (us := [([0], some (.arr (List.map (D.int .i64) data_) 0 false)), ([9], some (.cells [.i r_1.2] 0))]) (by kernel_rfl) (map_cons_ (lendX_of (fz := false) (es := List.map (D.int .i64) data_) (by kernel_rfl) (by kernel_rfl) rfl (by decide)) (map_cons_ rfl (map_cons_ rfl map_nil_))) (gives_cons (ws := []) (give_lref (fz := false) (es := List.map (D.int .i64) data_) (by kernel_rfl) rfl (by kernel_rfl) (by decide)) (gives_cons (ws := []) (give_same (by kernel_rfl)) (gives_cons (ws := []) (give_ptr (by kernel_rfl) (by kernel_rfl) (gcs_d gcs_nil)) gives_nil))) hc_1 (backs_cons_ (ws := [([0], some (.arr (List.map (D.int .i64) data_) 0 false))]) (back_lref (f0 := false) (es0 := List.map (D.int .i64) data_) (by kernel_rfl) hn_1) (backs_cons_ (ws := []) (by kernel_rfl) (backs_cons_ (ws := [([9], some (.cells [.i r_1.2] 0))]) (by kernel_rfl) backs_nil_))) (by kernel_rfl))) <| Rc 1 [vi r_1.1] <| Rk <| Sq <| Ro <| Rc 2 [⟨.ref [0] 0 0 (List.map (D.int .i64) data_).length 1, []⟩, vi (IntKind.wrap .i64 (a_ + (IntKind.wrap .i64 ((IntKind.wrap .i64 (Int.tdiv (IntKind.wrap .i64 (b_ - a_)) 4)) * 2))))] ?_
   obtain ⟨r_2, hr_2, h⟩ := bind_s h
   have hc_2 := slices_medianAdjacentOrdered_int_L data_ (IntKind.wrap .i64 (a_ + (IntKind.wrap .i64 ((IntKind.wrap .i64 (Int.tdiv (IntKind.wrap .i64 (b_ - a_)) 4)) * 2)))) r_1.2 r_2 hr_2
   have hn_2 := lim_len (F := tab1) (X := fun _ _ => none) hc_2 (show tab1 181 = some F181 from by kernel_rfl) rfl 0 rfl (by decide) rfl
   refine Rt (some 40) (.callf 181) [] none [.lref [0] 0 0 (List.map (D.int .i64) data_).length 1, .i (IntKind.wrap .i64 (a_ + (IntKind.wrap .i64 ((IntKind.wrap .i64 (Int.tdiv (IntKind.wrap .i64 (b_ - a_)) 4)) * 2)))), .ptr [9] 0 0] (.i r_2.1) [([0], some (.arr (List.map (D.int .i64) data_) 0 false)), ([9], some (.cells [.i r_2.2] 0))] (cut_call (call_ofL (ws := []) (us := [([0], some (.arr (List.map (D.int .i64) data_) 0 false)), ([9], some (.cells [.i r_2.2] 0))]) (by kernel_rfl) (map_cons_ (lendX_of (fz := false) (es := List.map (D.int .i64) data_) (by kernel_rfl) (by kernel_rfl) rfl (by decide)) (map_cons_ rfl (map_cons_ rfl map_nil_))) (gives_cons (ws := []) (give_lref (fz := false) (es := List.map (D.int .i64) data_) (by kernel_rfl) rfl (by kernel_rfl) (by decide)) (gives_cons (ws := []) (give_same (by kernel_rfl)) (gives_cons (ws := []) (give_ptr (by kernel_rfl) (by kernel_rfl) (gcs_d gcs_nil)) gives_nil))) hc_2 (backs_cons_ (ws := [([0], some (.arr (List.map (D.int .i64) data_) 0 false))]) (back_lref (f0 := false) (es0 := List.map (D.int .i64) data_) (by kernel_rfl) hn_2) (backs_cons_ (ws := []) (by kernel_rfl) (backs_cons_ (ws := [([9], some (.cells [.i r_2.2] 0))]) (by kernel_rfl) backs_nil_))) (by kernel_rfl))) <| Rc 1 [vi r_2.1] <| Rk <| Ro <| Rc 2 [⟨.ref [0] 0 0 (List.map (D.int .i64) data_).length 1, []⟩, vi (IntKind.wrap .i64 (a_ + (IntKind.wrap .i64 ((IntKind.wrap .i64 (Int.tdiv (IntKind.wrap .i64 (b_ - a_)) 4)) * 3))))] ?_
   obtain ⟨r_3, hr_3, h⟩ := bind_s h
   have hc_3 := slices_medianAdjacentOrdered_int_L data_ (IntKind.wrap .i64 (a_ + (IntKind.wrap .i64 ((IntKind.wrap .i64 (Int.tdiv (IntKind.wrap .i64 (b_ - a_)) 4)) * 3)))) r_2.2 r_3 hr_3
   have hn_3 := lim_len (F := tab1) (X := fun _ _ => none) hc_3 (show tab1 181 = some F181 from by kernel_rfl) rfl 0 rfl (by decide) rfl
   refine Rt (some 43) (.callf 181) [] none [.lref [0] 0 0 (List.map (D.int .i64) data_).length 1, .i (IntKind.wrap .i64 (a_ + (IntKind.wrap .i64 ((IntKind.wrap .i64 (Int.tdiv (IntKind.wrap .i64 (b_ - a_)) 4)) * 3)))), .ptr [9] 0 0] (.i r_3.1) [([0], some (.arr (List.map (D.int .i64) data_) 0 false)), ([9], some (.cells [.i r_3.2] 0))] (cut_call (call_ofL (ws := []) (us := [([0], some (.arr (List.map (D.int .i64) data_) 0 false)), ([9], some (.cells [.i r_3.2] 0))]) (by kernel_rfl) (map_cons_ (lendX_of (fz := false) (es := List.map (D.int .i64) data_) (by kernel_rfl) (by kernel_rfl) rfl (by decide)) (map_cons_ rfl (map_cons_ rfl map_nil_))) (gives_cons (ws := []) (give_lref (fz := false) (es := List.map (D.int .i64) data_) (by kernel_rfl) rfl (by kernel_rfl) (by decide)) (gives_cons (ws := []) (give_same (by kernel_rfl)) (gives_cons (ws := []) (give_ptr (by kernel_rfl) (by kernel_rfl) (gcs_d gcs_nil)) gives_nil))) hc_3 (backs_cons_ (ws := [([0], some (.arr (List.map (D.int .i64) data_) 0 false))]) (back_lref (f0 := false) (es0 := List.map (D.int .i64) data_) (by kernel_rfl) hn_3) (backs_cons_ (ws := []) (by kernel_rfl) (backs_cons_ (ws := [([9], some (.cells [.i r_3.2] 0))]) (by kernel_rfl) backs_nil_))) (by kernel_rfl))) <| Rc 1 [vi r_3.1] <| Rk <| Ro <| Rc 4 [⟨.ref [0] 0 0 (List.map (D.int .i64) data_).length 1, []⟩, vi r_1.1, vi r_2.1, vi r_3.1] ?_
   obtain ⟨r_4, hr_4, h⟩ := bind_s h
   have hc_4 := slices_medianOrdered_int_L data_ r_1.1 r_2.1 r_3.1 r_3.2 r_4 hr_4
   have hn_4 := lim_len (F := tab1) (X := fun _ _ => none) hc_4 (show tab1 182 = some F182 from by kernel_rfl) rfl 0 rfl (by decide) rfl
   refine Rt (some 48) (.callf 182) [] none [.lref [0] 0 0 (List.map (D.int .i64) data_).length 1, .i r_1.1, .i r_2.1, .i r_3.1, .ptr [9] 0 0] (.i r_4.1) [([0], some (.arr (List.map (D.int .i64) data_) 0 false)), ([9], some (.cells [.i r_4.2] 0))] (cut_call (call_ofL (ws := []) (us := [([0], some (.arr (List.map (D.int .i64) data_) 0 false)), ([9], some (.cells [.i r_4.2] 0))]) (by kernel_rfl) (map_cons_ (lendX_of (fz := false) (es := List.map (D.int .i64) data_) (by kernel_rfl) (by kernel_rfl) rfl (by decide)) (map_cons_ rfl (map_cons_ rfl (map_cons_ rfl (map_cons_ rfl map_nil_))))) (gives_cons (ws := []) (give_lref (fz := false) (es := List.map (D.int .i64) data_) (by kernel_rfl) rfl (by kernel_rfl) (by decide)) (gives_cons (ws := []) (give_same (by kernel_rfl)) (gives_cons (ws := []) (give_same (by kernel_rfl)) (gives_cons (ws := []) (give_same (by kernel_rfl)) (gives_cons (ws := []) (give_ptr (by kernel_rfl) (by kernel_rfl) (gcs_d gcs_nil)) gives_nil))))) hc_4 (backs_cons_ (ws := [([0], some (.arr (List.map (D.int .i64) data_) 0 false))]) (back_lref (f0 := false) (es0 := List.map (D.int .i64) data_) (by kernel_rfl) hn_4) (backs_cons_ (ws := []) (by kernel_rfl) (backs_cons_ (ws := []) (by kernel_rfl) (backs_cons_ (ws := []) (by kernel_rfl) (backs_cons_ (ws := [([9], some (.cells [.i r_4.2] 0))]) (by kernel_rfl) backs_nil_))))) (by kernel_rfl))) <| Rc 1 [vi r_4.1] <| Rk ?_
   refine Runs.canon (slices_choosePivotOrdered_int_h28 r_4.2 data_ r_4.1) Cz ?_
   exact slices_choosePivotOrdered_int_j28_ok data_ a_ b_ r_4.2 data_ r_4.1 r h
  | false =>
   replace h := ite_f hb_2 h
   refine Cf <| Runs.skip <| kS_nrm <| Ro <| Rc 4 [⟨.ref [0] 0 0 (List.map (D.int .i64) data_).length 1, []⟩, vi (IntKind.wrap .i64 (a_ + (IntKind.wrap .i64 ((IntKind.wrap .i64 (Int.tdiv (IntKind.wrap .i64 (b_ - a_)) 4)) * 1)))), vi (IntKind.wrap .i64 (a_ + (IntKind.wrap .i64 ((IntKind.wrap .i64 (Int.tdiv (IntKind.wrap .i64 (b_ - a_)) 4)) * 2)))), vi (IntKind.wrap .i64 (a_ + (IntKind.wrap .i64 ((IntKind.wrap .i64 (Int.tdiv (IntKind.wrap .i64 (b_ - a_)) 4)) * 3))))] ?_
   obtain ⟨r_5, hr_5, h⟩ := bind_s h
   have hc_5 := slices_medianOrdered_int_L data_ (IntKind.wrap .i64 (a_ + (IntKind.wrap .i64 ((IntKind.wrap .i64 (Int.tdiv (IntKind.wrap .i64 (b_ - a_)) 4)) * 1)))) (IntKind.wrap .i64 (a_ + (IntKind.wrap .i64 ((IntKind.wrap .i64 (Int.tdiv (IntKind.wrap .i64 (b_ - a_)) 4)) * 2)))) (IntKind.wrap .i64 (a_ + (IntKind.wrap .i64 ((IntKind.wrap .i64 (Int.tdiv (IntKind.wrap .i64 (b_ - a_)) 4)) * 3)))) 0 r_5 hr_5
   have hn_5 := lim_len (F := tab1) (X := fun _ _ => none) hc_5 (show tab1 182 = some F182 from by kernel_rfl) rfl 0 rfl (by decide) rfl
   refine Rt (some 48) (.callf 182) [] none [.lref [0] 0 0 (List.map (D.int .i64) data_).length 1, .i (IntKind.wrap .i64 (a_ + (IntKind.wrap .i64 ((IntKind.wrap .i64 (Int.tdiv (IntKind.wrap .i64 (b_ - a_)) 4)) * 1)))), .i (IntKind.wrap .i64 (a_ + (IntKind.wrap .i64 ((IntKind.wrap .i64 (Int.tdiv (IntKind.wrap .i64 (b_ - a_)) 4)) * 2)))), .i (IntKind.wrap .i64 (a_ + (IntKind.wrap .i64 ((IntKind.wrap .i64 (Int.tdiv (IntKind.wrap .i64 (b_ - a_)) 4)) * 3)))), .ptr [9] 0 0] (.i r_5.1) [([0], some (.arr (List.map (D.int .i64) data_) 0 false)), ([9], some (.cells [.i r_5.2] 0))] (cut_call (call_ofL (ws := []) (us := [([0], some (.arr (List.map (D.int .i64) data_) 0 false)), ([9], some (.cells [.i r_5.2] 0))]) (by kernel_rfl) (map_cons_ (lendX_of (fz := false) (es := List.map (D.int .i64) data_) (by kernel_rfl) (by kernel_rfl) rfl (by decide)) (map_cons_ rfl (map_cons_ rfl (map_cons_ rfl (map_cons_ rfl map_nil_))))) (gives_cons (ws := []) (give_lref (fz := false) (es := List.map (D.int .i64) data_) (by kernel_rfl) rfl (by kernel_rfl) (by decide)) (gives_cons (ws := []) (give_same (by kernel_rfl)) (gives_cons (ws := []) (give_same (by kernel_rfl)) (gives_cons (ws := []) (give_same (by kernel_rfl)) (gives_cons (ws := []) (give_ptr (by kernel_rfl) (by kernel_rfl) (gcs_d gcs_nil)) gives_nil))))) hc_5 (backs_cons_ (ws := [([0], some (.arr (List.map (D.int .i64) data_) 0 false))]) (back_lref (f0 := false) (es0 := List.map (D.int .i64) data_) (by kernel_rfl) hn_5) (backs_cons_ (ws := []) (by kernel_rfl) (backs_cons_ (ws := []) (by kernel_rfl) (backs_cons_ (ws := []) (by kernel_rfl) (backs_cons_ (ws := [([9], some (.cells [.i r_5.2] 0))]) (by kernel_rfl) backs_nil_))))) (by kernel_rfl))) ?_
   refine Rc 1 [vi r_5.1] <| Rk <| Runs.canon (slices_choosePivotOrdered_int_h28 r_5.2 data_ r_5.1) Cz ?_
   exact slices_choosePivotOrdered_int_j28_ok data_ a_ b_ r_5.2 data_ r_5.1 r h
 | false =>
  replace h := ite_f hb_1 h
  refine Cf <| Runs.skip <| kS_nrm <| Runs.canon (slices_choosePivotOrdered_int_h28 0 data_ (IntKind.wrap .i64 (a_ + (IntKind.wrap .i64 ((IntKind.wrap .i64 (Int.tdiv (IntKind.wrap .i64 (b_ - a_)) 4)) * 2))))) Cz ?_
  exact slices_choosePivotOrdered_int_j28_ok data_ a_ b_ 0 data_ (IntKind.wrap .i64 (a_ + (IntKind.wrap .i64 ((IntKind.wrap .i64 (Int.tdiv (IntKind.wrap .i64 (b_ - a_)) 4)) * 2)))) r h
theorem slices_choosePivotOrdered_int_L (data_ : (List Int)) (a_ : Int) (b_ : Int) (r : (Int × Int)) (h : slices_choosePivotOrdered_int data_ a_ b_ = some r) : L 163 [.arr false 1 (List.map (D.int .i64) data_), .i a_, .i b_] = some (.tup [.i r.1, .i r.2], [.arr false 1 (List.map (D.int .i64) data_), .i a_, .i b_]) := by
 obtain ⟨p, ⟨hne, hf⟩, hr⟩ := slices_choosePivotOrdered_int_ok data_ a_ b_ r h
 obtain ⟨k, hk⟩ := run_of (F := F163) (args := [.arr false 1 (List.map (D.int .i64) data_), .i a_, .i b_]) (ap := [.ref [0] 0 0 (List.map (D.int .i64) data_).length 1, .i a_, .i b_]) (bx0 := updW (fun _ => none) [([0], some (.arr (List.map (D.int .i64) data_) 0 false))]) rfl rfl (by kernel_rfl) ⟨p, ⟨hne, hf⟩, hr⟩
 exact lim_run (k := k) rfl hk
def slices_reverseRangeOrdered_int_h5n (data_ : (List Int)) (w_data_ : (List Int)) (i6 : Int) (j7 : Int) (n_0 : Nat) : St := ⟨tab [(0, .ref [0] 0 0 n_0 1), (6, .i i6), (7, .i j7)], tabB [([0], some (.arr (List.map (D.int .i64) w_data_) 0 false))]⟩
def slices_reverseRangeOrdered_int_h5 (data_ : (List Int)) (w_data_ : (List Int)) (i6 : Int) (j7 : Int) : St := slices_reverseRangeOrdered_int_h5n data_ w_data_ i6 j7 (List.map (D.int .i64) w_data_).length
def slices_reverseRangeOrdered_int_h18 (data_ : (List Int)) (w_data_ : (List Int)) : St := ⟨tab [], tabB [([0], some (.arr (List.map (D.int .i64) w_data_) 0 false))]⟩
def slices_reverseRangeOrdered_int_Q (data_ : (List Int)) (a_ : Int) (b_ : Int) (r : (List Int)) (p : Out × St) : Prop := (∀ i, p.1 ≠ .exit i) ∧ finF F164 [.ref [0] 0 0 (List.map (D.int .i64) data_).length 1, .i a_, .i b_] p.2 = some (.tup [], [.arr false 1 (List.map (D.int .i64) r), .i a_, .i b_])
def slices_reverseRangeOrdered_int_P5 (data_ : (List Int)) (a_ : Int) (b_ : Int) (data_ : (List Int)) (e : (List Int)) (p : Out × St) : Prop := p.1 = .exit 0 ∧ ∃ g : Unit, Canon [] [] [[0]] p.2 (slices_reverseRangeOrdered_int_h18 data_ e)
theorem slices_reverseRangeOrdered_int_l5_ok (data_ : (List Int)) (a_ : Int) (b_ : Int) (data_ : (List Int)) (w_data_ : (List Int)) (i6 : Int) (j7 : Int) (r : (Lp ((List Int) × Int × Int) (List Int))) (h : slices_reverseRangeOrdered_int_l5 data_ w_data_ i6 j7 = some r) : Runs L F164l5 (slices_reverseRangeOrdered_int_h5 data_ w_data_ i6 j7) (LQ [] [0, 6, 7] [[0]] (fun (x : ((List Int) × Int × Int)) (g : Unit) => slices_reverseRangeOrdered_int_h5 data_ x.1 x.2.1 x.2.2) (slices_reverseRangeOrdered_int_P5 data_ a_ b_ data_) r) := by
 unfold slices_reverseRangeOrdered_int_l5 at h
 refine Sq <| Sq <| Ro <| Rc 3 [vi i6, vi j7, vb (decide (i6 < j7))] <| Rk ?_
 cases hb_1 : ((decide (i6 < j7)) : Bool) with
 | true =>
  replace h := ite_t hb_1 h
  refine Ct <| Runs.skip <| kS_nrm <| Runs.block <| Sq <| Ro <| Rc 6 [⟨.ref [0] 0 0 (List.map (D.int .i64) w_data_).length 1, []⟩, vi i6, ⟨.ref [0] 0 0 (List.map (D.int .i64) w_data_).length 1, []⟩, vi j7, ⟨.ref [0] 0 0 (List.map (D.int .i64) w_data_).length 1, []⟩, vi j7] ?_
  obtain ⟨z_1, hz_1, h⟩ := bind_s h
  refine Rt (some 20) (.iaddrS 1) [] none [.ref [0] 0 0 (List.map (D.int .i64) w_data_).length 1, .i j7] (.eref [0] 0 (0 + (j7).toNat) 0) [] (cut_atR (e := (D.int .i64)) (l := w_data_) hz_1 rfl) <| Rt (some 21) (.load none) [] none [.eref [0] 0 (0 + (j7).toNat) 0] (.i z_1) [] (cut_loadR (e := (D.int .i64)) (l := w_data_) (fz := false) (y := z_1) (by kernel_rfl) hz_1 (by kernel_rfl) (by kernel_rfl)) <| Rc 2 [⟨.ref [0] 0 0 (List.map (D.int .i64) w_data_).length 1, []⟩, vi i6] ?_
  obtain ⟨z_2, hz_2, h⟩ := bind_s h
  refine Rt (some 24) (.iaddrS 1) [] none [.ref [0] 0 0 (List.map (D.int .i64) w_data_).length 1, .i i6] (.eref [0] 0 (0 + (i6).toNat) 0) [] (cut_atR (e := (D.int .i64)) (l := w_data_) hz_2 rfl) <| Rt (some 25) (.load none) [] none [.eref [0] 0 (0 + (i6).toNat) 0] (.i z_2) [] (cut_loadR (e := (D.int .i64)) (l := w_data_) (fz := false) (y := z_2) (by kernel_rfl) hz_2 (by kernel_rfl) (by kernel_rfl)) ?_
  obtain ⟨z_3, hz_3, h⟩ := bind_s h
  refine Rt (some 26) (.iaddrS 1) [] none [.ref [0] 0 0 (List.map (D.int .i64) w_data_).length 1, .i i6] (.eref [0] 0 (0 + (i6).toNat) 0) [] (cut_atR (e := (D.int .i64)) (l := w_data_) hz_3 rfl) <| Rt none (.store 1) [] none [.eref [0] 0 (0 + (i6).toNat) 0, .i z_1] (.tup []) [([0], some (.arr (List.map (D.int .i64) (List.set w_data_ (i6).toNat z_1)) 0 false))] (cut_setR (e := (D.int .i64)) (l := w_data_) (y := z_3) (y' := z_1) (ds := [.int .i64 z_1]) (by kernel_rfl) hz_3 (by kernel_rfl) (by kernel_rfl) (by kernel_rfl) (by kernel_rfl)) ?_
  obtain ⟨z_4, hz_4, h⟩ := bind_s h
  refine Rt (some 27) (.iaddrS 1) [] none [.ref [0] 0 0 (List.map (D.int .i64) w_data_).length 1, .i j7] (.eref [0] 0 (0 + (j7).toNat) 0) [] (cut_atR (e := (D.int .i64)) (l := (List.set w_data_ (i6).toNat z_1)) hz_4 (by simp only [List.length_map, List.length_set, cpy_length] : (List.map (D.int .i64) w_data_).length = (List.map (D.int .i64) (List.set w_data_ (i6).toNat z_1)).length)) <| Rt none (.store 1) [] none [.eref [0] 0 (0 + (j7).toNat) 0, .i z_2] (.tup []) [([0], some (.arr (List.map (D.int .i64) (List.set (List.set w_data_ (i6).toNat z_1) (j7).toNat z_2)) 0 false))] (cut_setR (e := (D.int .i64)) (l := (List.set w_data_ (i6).toNat z_1)) (y := z_4) (y' := z_2) (ds := [.int .i64 z_2]) (by kernel_rfl) hz_4 (by kernel_rfl) (by kernel_rfl) (by kernel_rfl) (by kernel_rfl)) <| Rk <| Sq <| Ro <| Rc 3 [vi i6, vi (IntKind.wrap .i64 (i6 + 1)), vi (IntKind.wrap .i64 (i6 + 1))] <| Rk <| Ro <| Rc 3 [vi j7, vi (IntKind.wrap .i64 (j7 - 1)), vi (IntKind.wrap .i64 (j7 - 1))] <| Rd <| kB_nrm ?_
  obtain rfl := sj h
  exact ⟨rfl, (), (Canon.len (f := fun n => slices_reverseRangeOrdered_int_h5n data_ (List.set (List.set w_data_ (i6).toNat z_1) (j7).toNat z_2) (IntKind.wrap .i64 (i6 + 1)) (IntKind.wrap .i64 (j7 - 1)) n) ((by simp only [List.length_map, List.length_set, cpy_length] : (List.map (D.int .i64) w_data_).length = (List.map (D.int .i64) (List.set (List.set w_data_ (i6).toNat z_1) (j7).toNat z_2)).length)).symm Cz)⟩
 | false =>
  replace h := ite_f hb_1 h
  refine Cf <| Runs.exit <| kS_exit ?_
  obtain rfl := sj h
  exact ⟨nofun, rfl, (), Cz⟩
theorem slices_reverseRangeOrdered_int_ok (data_ : (List Int)) (a_ : Int) (b_ : Int) (r : (List Int)) (h : slices_reverseRangeOrdered_int data_ a_ b_ = some r) : Runs L F164.body ⟨tmOf [.ref [0] 0 0 (List.map (D.int .i64) data_).length 1, .i a_, .i b_] 0, updW (fun _ => none) [([0], some (.arr (List.map (D.int .i64) data_) 0 false))]⟩ (slices_reverseRangeOrdered_int_Q data_ a_ b_ r) := by
 unfold slices_reverseRangeOrdered_int at h
 refine Sq <| Sq <| Sq <| Ro <| Rc 2 [vi a_, vi a_] <| Rk <| Sq <| Ro <| Rc 3 [vi b_, vi (IntKind.wrap .i64 (b_ - 1)), vi (IntKind.wrap .i64 (b_ - 1))] <| Rk <| Runs.block ?_
 obtain ⟨e_1, he_1, h⟩ := bind_s h
 refine Runs.loop (fun x : ((List Int) × Int × Int) => slices_reverseRangeOrdered_int_l5 data_ x.1 x.2.1 x.2.2) (fun (x : ((List Int) × Int × Int)) (g : Unit) => slices_reverseRangeOrdered_int_h5 data_ x.1 x.2.1 x.2.2) (slices_reverseRangeOrdered_int_P5 data_ a_ b_ data_) (fun x g r hr => slices_reverseRangeOrdered_int_l5_ok data_ a_ b_ data_ x.1 x.2.1 x.2.2  r hr) () he_1 Cz ?_
 rintro ⟨o, s⟩ hp
 obtain ⟨ho, g_1, hk_1⟩ := hp
 have ho' : o = .exit 0 := ho
 subst ho'
 refine kB_hit <| kS_nrm <| Runs.canon _ hk_1 <| Runs.skip <| kS_nrm <| Runs.gnil ?_
 try dsimp only at h
 by_cases hlw0 : e_1.length = data_.length
 case neg => rw [if_neg hlw0] at h; cases h
 rw [if_pos hlw0] at h
 obtain rfl := sj h
 exact ⟨Out.nrm_ne, (fin_ofL (rs := []) (by kernel_rfl) (map_cons_ (lendP_of (fz := false) (es := List.map (D.int .i64) e_1) (by kernel_rfl) (by rw [List.length_map, List.length_map, hlw0] : (List.map (D.int .i64) data_).length = (List.map (D.int .i64) e_1).length) (by decide)) (map_cons_ rfl (map_cons_ rfl map_nil_))) (by kernel_rfl) outs_nil (gives_cons (give_lref (fz := false) (es := List.map (D.int .i64) e_1) (by kernel_rfl) (by rw [List.length_map, List.length_map, hlw0] : (List.map (D.int .i64) data_).length = (List.map (D.int .i64) e_1).length) (by kernel_rfl) (by decide)) (gives_cons (give_same (by kernel_rfl)) (gives_cons (give_same (by kernel_rfl)) gives_nil))))⟩
theorem slices_reverseRangeOrdered_int_L (data_ : (List Int)) (a_ : Int) (b_ : Int) (r : (List Int)) (h : slices_reverseRangeOrdered_int data_ a_ b_ = some r) : L 164 [.arr false 1 (List.map (D.int .i64) data_), .i a_, .i b_] = some (.tup [], [.arr false 1 (List.map (D.int .i64) r), .i a_, .i b_]) := by
 obtain ⟨p, ⟨hne, hf⟩, hr⟩ := slices_reverseRangeOrdered_int_ok data_ a_ b_ r h
 obtain ⟨k, hk⟩ := run_of (F := F164) (args := [.arr false 1 (List.map (D.int .i64) data_), .i a_, .i b_]) (ap := [.ref [0] 0 0 (List.map (D.int .i64) data_).length 1, .i a_, .i b_]) (bx0 := updW (fun _ => none) [([0], some (.arr (List.map (D.int .i64) data_) 0 false))]) rfl rfl (by kernel_rfl) ⟨p, ⟨hne, hf⟩, hr⟩
 exact lim_run (k := k) rfl hk
def slices_partialInsertionSortOrdered_int_h8 (data_ : (List Int)) (w_data_ : (List Int)) (a1 : Int) (b2 : Int) (i7 : Int) (j8 : Int) : St := ⟨tab [(0, .ref [0] 0 0 (List.map (D.int .i64) w_data_).length 1), (1, .i a1), (2, .i b2), (7, .i i7), (8, .i j8)], tabB [([0], some (.arr (List.map (D.int .i64) w_data_) 0 false))]⟩
def slices_partialInsertionSortOrdered_int_h19 (data_ : (List Int)) (w_data_ : (List Int)) (a1 : Int) (b2 : Int) (i7 : Int) (j8 : Int) : St := ⟨tab [(0, .ref [0] 0 0 (List.map (D.int .i64) w_data_).length 1), (1, .i a1), (2, .i b2), (7, .i i7), (8, .i j8)], tabB [([0], some (.arr (List.map (D.int .i64) w_data_) 0 false))]⟩
def slices_partialInsertionSortOrdered_int_h28 (data_ : (List Int)) (w_data_ : (List Int)) (a1 : Int) (b2 : Int) (i7 : Int) (j8 : Int) : St := ⟨tab [(0, .ref [0] 0 0 (List.map (D.int .i64) w_data_).length 1), (1, .i a1), (2, .i b2), (7, .i i7), (8, .i j8)], tabB [([0], some (.arr (List.map (D.int .i64) w_data_) 0 false))]⟩
def slices_partialInsertionSortOrdered_int_h53n (data_ : (List Int)) (w_data_ : (List Int)) (a1 : Int) (b2 : Int) (i7 : Int) (j8 : Int) (j9 : Int) (n_0 : Nat) : St := ⟨tab [(0, .ref [0] 0 0 n_0 1), (1, .i a1), (2, .i b2), (7, .i i7), (8, .i j8), (9, .i j9)], tabB [([0], some (.arr (List.map (D.int .i64) w_data_) 0 false))]⟩
def slices_partialInsertionSortOrdered_int_h53 (data_ : (List Int)) (w_data_ : (List Int)) (a1 : Int) (b2 : Int) (i7 : Int) (j8 : Int) (j9 : Int) : St := slices_partialInsertionSortOrdered_int_h53n data_ w_data_ a1 b2 i7 j8 j9 (List.map (D.int .i64) w_data_).length
def slices_partialInsertionSortOrdered_int_h71n (data_ : (List Int)) (w_data_ : (List Int)) (a1 : Int) (b2 : Int) (i7 : Int) (j8 : Int) (n_0 : Nat) : St := ⟨tab [(0, .ref [0] 0 0 n_0 1), (1, .i a1), (2, .i b2), (7, .i i7), (8, .i j8)], tabB [([0], some (.arr (List.map (D.int .i64) w_data_) 0 false))]⟩
def slices_partialInsertionSortOrdered_int_h71 (data_ : (List Int)) (w_data_ : (List Int)) (a1 : Int) (b2 : Int) (i7 : Int) (j8 : Int) : St := slices_partialInsertionSortOrdered_int_h71n data_ w_data_ a1 b2 i7 j8 (List.map (D.int .i64) w_data_).length
def slices_partialInsertionSortOrdered_int_h77n (data_ : (List Int)) (w_data_ : (List Int)) (a1 : Int) (b2 : Int) (i7 : Int) (j8 : Int) (j10 : Int) (n_0 : Nat) : St := ⟨tab [(0, .ref [0] 0 0 n_0 1), (1, .i a1), (2, .i b2), (7, .i i7), (8, .i j8), (10, .i j10)], tabB [([0], some (.arr (List.map (D.int .i64) w_data_) 0 false))]⟩
def slices_partialInsertionSortOrdered_int_h77 (data_ : (List Int)) (w_data_ : (List Int)) (a1 : Int) (b2 : Int) (i7 : Int) (j8 : Int) (j10 : Int) : St := slices_partialInsertionSortOrdered_int_h77n data_ w_data_ a1 b2 i7 j8 j10 (List.map (D.int .i64) w_data_).length
def slices_partialInsertionSortOrdered_int_h95 (data_ : (List Int)) (w_data_ : (List Int)) (a1 : Int) (b2 : Int) (i7 : Int) (j8 : Int) : St := ⟨tab [(0, .ref [0] 0 0 (List.map (D.int .i64) w_data_).length 1), (1, .i a1), (2, .i b2), (7, .i i7), (8, .i j8)], tabB [([0], some (.arr (List.map (D.int .i64) w_data_) 0 false))]⟩
def slices_partialInsertionSortOrdered_int_h96 (data_ : (List Int)) (w_data_ : (List Int)) : St := ⟨tab [], tabB [([0], some (.arr (List.map (D.int .i64) w_data_) 0 false))]⟩
def slices_partialInsertionSortOrdered_int_Q (data_ : (List Int)) (a_ : Int) (b_ : Int) (r : (Bool × (List Int))) (p : Out × St) : Prop := (∀ i, p.1 ≠ .exit i) ∧ finF F165 [.ref [0] 0 0 (List.map (D.int .i64) data_).length 1, .i a_, .i b_] p.2 = some (.b r.1, [.arr false 1 (List.map (D.int .i64) r.2), .i a_, .i b_])
def slices_partialInsertionSortOrdered_int_P19 (data_ : (List Int)) (a_ : Int) (b_ : Int) (data_ : (List Int)) (w_data_ : (List Int)) (a1 : Int) (b2 : Int) (j8 : Int) (e : Int) (p : Out × St) : Prop := p.1 = .exit 2 ∧ ∃ g : Unit, Canon [] [0, 1, 2, 7, 8] [[0]] p.2 (slices_partialInsertionSortOrdered_int_h28 data_ w_data_ a1 b2 e j8)
def slices_partialInsertionSortOrdered_int_P53 (data_ : (List Int)) (a_ : Int) (b_ : Int) (data_ : (List Int)) (a1 : Int) (b2 : Int) (i7 : Int) (j8 : Int) (e : (List Int)) (p : Out × St) : Prop := p.1 = .exit 4 ∧ ∃ g : Unit, Canon [] [0, 1, 2, 7, 8] [[0]] p.2 (slices_partialInsertionSortOrdered_int_h71 data_ e a1 b2 i7 j8)
def slices_partialInsertionSortOrdered_int_P77 (data_ : (List Int)) (a_ : Int) (b_ : Int) (data_ : (List Int)) (a1 : Int) (b2 : Int) (i7 : Int) (j8 : Int) (e : (List Int)) (p : Out × St) : Prop := p.1 = .exit 6 ∧ ∃ g : Unit, Canon [] [0, 1, 2, 7, 8] [[0]] p.2 (slices_partialInsertionSortOrdered_int_h95 data_ e a1 b2 i7 j8)
def slices_partialInsertionSortOrdered_int_P8 (data_ : (List Int)) (a_ : Int) (b_ : Int) (data_ : (List Int)) (a1 : Int) (b2 : Int) (e : ((Bool × (List Int)) ⊕ (List Int))) (p : Out × St) : Prop := match e with
 | .inl x => p.1 = .ret ∧ finF F165 [.ref [0] 0 0 (List.map (D.int .i64) data_).length 1, .i a_, .i b_] p.2 = some (.b x.1, [.arr false 1 (List.map (D.int .i64) x.2), .i a_, .i b_])
 | .inr x => p.1 = .exit 0 ∧ ∃ g : Unit, Canon [] [] [[0]] p.2 (slices_partialInsertionSortOrdered_int_h96 data_ x)
theorem slices_partialInsertionSortOrdered_int_l19_ok (data_ : (List Int)) (a_ : Int) (b_ : Int) (data_ : (List Int)) (w_data_ : (List Int)) (a1 : Int) (b2 : Int) (i7 : Int) (j8 : Int) (r : (Lp Int Int)) (h : slices_partialInsertionSortOrdered_int_l19 data_ w_data_ a1 b2 i7 j8 = some r) : Runs L F165l19 (slices_partialInsertionSortOrdered_int_h19 data_ w_data_ a1 b2 i7 j8) (LQ [] [0, 1, 2, 7, 8] [[0]] (fun (x : Int) (g : Unit) => slices_partialInsertionSortOrdered_int_h19 data_ w_data_ a1 b2 x j8) (slices_partialInsertionSortOrdered_int_P19 data_ a_ b_ data_ w_data_ a1 b2 j8) r) := by
 unfold slices_partialInsertionSortOrdered_int_l19 at h
 refine Sq <| Sq <| Ro <| Rc 4 [vi i7, vi b2, vb (decide (i7 < b2)), vb (decide (i7 < b2))] ?_
 cases hb_2 : ((decide (i7 < b2)) : Bool) with
 | true =>
  replace h := ite_t hb_2 h
  refine Rc 2 [⟨.ref [0] 0 0 (List.map (D.int .i64) w_data_).length 1, []⟩, vi i7] ?_
  obtain ⟨z_1, hz_1, h⟩ := bind_s h
  refine Rt (some 23) (.iaddrS 1) [] none [.ref [0] 0 0 (List.map (D.int .i64) w_data_).length 1, .i i7] (.eref [0] 0 (0 + (i7).toNat) 0) [] (cut_atR (e := (D.int .i64)) (l := w_data_) hz_1 rfl) <| Rt (some 24) (.load none) [] none [.eref [0] 0 (0 + (i7).toNat) 0] (.i z_1) [] (cut_loadR (e := (D.int .i64)) (l := w_data_) (fz := false) (y := z_1) (by kernel_rfl) hz_1 (by kernel_rfl) (by kernel_rfl)) <| Rc 3 [⟨.ref [0] 0 0 (List.map (D.int .i64) w_data_).length 1, []⟩, vi i7, vi (IntKind.wrap .i64 (i7 - 1))] ?_
  obtain ⟨z_2, hz_2, h⟩ := bind_s h
  refine Rt (some 28) (.iaddrS 1) [] none [.ref [0] 0 0 (List.map (D.int .i64) w_data_).length 1, .i (IntKind.wrap .i64 (i7 - 1))] (.eref [0] 0 (0 + ((IntKind.wrap .i64 (i7 - 1))).toNat) 0) [] (cut_atR (e := (D.int .i64)) (l := w_data_) hz_2 rfl) <| Rt (some 29) (.load none) [] none [.eref [0] 0 (0 + ((IntKind.wrap .i64 (i7 - 1))).toNat) 0] (.i z_2) [] (cut_loadR (e := (D.int .i64)) (l := w_data_) (fz := false) (y := z_2) (by kernel_rfl) hz_2 (by kernel_rfl) (by kernel_rfl)) ?_
  obtain ⟨r_1, hr_1, h⟩ := bind_s h
  have hc_1 := cmp_Less_int_L z_1 z_2 r_1 hr_1
  refine Rt (some 30) (.callf 166) [] none [.i z_1, .i z_2] (.b r_1) [] (cc hc_1) <| Rc 2 [vb (!r_1), vb (!r_1)] <| Rk ?_
  cases hb_3 : ((!r_1) : Bool) with
  | true =>
   replace h := ite_t hb_3 h
   refine Ct <| Runs.skip <| kS_nrm <| Runs.block <| Ro <| Rc 3 [vi i7, vi (IntKind.wrap .i64 (i7 + 1)), vi (IntKind.wrap .i64 (i7 + 1))] <| Rd <| kB_nrm ?_
   obtain rfl := sj h
   exact ⟨rfl, (), Cz⟩
  | false =>
   replace h := ite_f hb_3 h
   refine Cf <| Runs.exit <| kS_exit ?_
   obtain rfl := sj h
   exact ⟨nofun, rfl, (), Cz⟩
 | false =>
  replace h := ite_f hb_2 h
  refine Rc 12 [vn, vn, vn, vn, vn, vn, vn, vn, vn, vn, vn, vb false] <| Rk <| Cf <| Runs.exit <| kS_exit ?_
  obtain rfl := sj h
  exact ⟨nofun, rfl, (), Cz⟩
theorem slices_partialInsertionSortOrdered_int_l53_ok (data_ : (List Int)) (a_ : Int) (b_ : Int) (data_ : (List Int)) (w_data_ : (List Int)) (a1 : Int) (b2 : Int) (i7 : Int) (j8 : Int) (j9 : Int) (r : (Lp ((List Int) × Int) (List Int))) (h : slices_partialInsertionSortOrdered_int_l53 data_ w_data_ a1 b2 i7 j8 j9 = some r) : Runs L F165l53 (slices_partialInsertionSortOrdered_int_h53 data_ w_data_ a1 b2 i7 j8 j9) (LQ [] [0, 1, 2, 7, 8, 9] [[0]] (fun (x : ((List Int) × Int)) (g : Unit) => slices_partialInsertionSortOrdered_int_h53 data_ x.1 a1 b2 i7 j8 x.2) (slices_partialInsertionSortOrdered_int_P53 data_ a_ b_ data_ a1 b2 i7 j8) r) := by
 unfold slices_partialInsertionSortOrdered_int_l53 at h
 refine Sq <| Sq <| Ro <| Rc 2 [vi j9, vb (decide (j9 ≥ 1))] <| Rk ?_
 cases hb_5 : ((decide (j9 ≥ 1)) : Bool) with
 | true =>
  replace h := ite_t hb_5 h
  refine Ct <| Runs.skip <| kS_nrm <| Sq <| Runs.block <| Sq <| Sq <| Ro <| Rc 2 [⟨.ref [0] 0 0 (List.map (D.int .i64) w_data_).length 1, []⟩, vi j9] ?_
  obtain ⟨z_5, hz_5, h⟩ := bind_s h
  refine Rt (some 70) (.iaddrS 1) [] none [.ref [0] 0 0 (List.map (D.int .i64) w_data_).length 1, .i j9] (.eref [0] 0 (0 + (j9).toNat) 0) [] (cut_atR (e := (D.int .i64)) (l := w_data_) hz_5 rfl) <| Rt (some 71) (.load none) [] none [.eref [0] 0 (0 + (j9).toNat) 0] (.i z_5) [] (cut_loadR (e := (D.int .i64)) (l := w_data_) (fz := false) (y := z_5) (by kernel_rfl) hz_5 (by kernel_rfl) (by kernel_rfl)) <| Rc 3 [⟨.ref [0] 0 0 (List.map (D.int .i64) w_data_).length 1, []⟩, vi j9, vi (IntKind.wrap .i64 (j9 - 1))] ?_
  obtain ⟨z_6, hz_6, h⟩ := bind_s h
  refine Rt (some 75) (.iaddrS 1) [] none [.ref [0] 0 0 (List.map (D.int .i64) w_data_).length 1, .i (IntKind.wrap .i64 (j9 - 1))] (.eref [0] 0 (0 + ((IntKind.wrap .i64 (j9 - 1))).toNat) 0) [] (cut_atR (e := (D.int .i64)) (l := w_data_) hz_6 rfl) <| Rt (some 76) (.load none) [] none [.eref [0] 0 (0 + ((IntKind.wrap .i64 (j9 - 1))).toNat) 0] (.i z_6) [] (cut_loadR (e := (D.int .i64)) (l := w_data_) (fz := false) (y := z_6) (by kernel_rfl) hz_6 (by kernel_rfl) (by kernel_rfl)) ?_
  obtain ⟨r_1, hr_1, h⟩ := bind_s h
  have hc_1 := cmp_Less_int_L z_5 z_6 r_1 hr_1
  refine Rt (some 77) (.callf 166) [] none [.i z_5, .i z_6] (.b r_1) [] (cc hc_1) <| Rc 1 [vb (!r_1)] <| Rk ?_
  cases hb_6 : ((!r_1) : Bool) with
  | true =>
   replace h := ite_t hb_6 h
   refine Ct <| Runs.exit <| kS_exit <| kB_pass (by decide) <| kS_exit ?_
   obtain rfl := sj h
   exact ⟨nofun, rfl, (), Cz⟩
  | false =>
   replace h := ite_f hb_6 h
   refine Cf <| Runs.skip <| kS_nrm <| Ro <| Rc 8 [⟨.ref [0] 0 0 (List.map (D.int .i64) w_data_).length 1, []⟩, vi j9, ⟨.ref [0] 0 0 (List.map (D.int .i64) w_data_).length 1, []⟩, vi j9, vi (IntKind.wrap .i64 (j9 - 1)), ⟨.ref [0] 0 0 (List.map (D.int .i64) w_data_).length 1, []⟩, vi j9, vi (IntKind.wrap .i64 (j9 - 1))] ?_
   obtain ⟨z_7, hz_7, h⟩ := bind_s h
   refine Rt (some 87) (.iaddrS 1) [] none [.ref [0] 0 0 (List.map (D.int .i64) w_data_).length 1, .i (IntKind.wrap .i64 (j9 - 1))] (.eref [0] 0 (0 + ((IntKind.wrap .i64 (j9 - 1))).toNat) 0) [] (cut_atR (e := (D.int .i64)) (l := w_data_) hz_7 rfl) <| Rt (some 88) (.load none) [] none [.eref [0] 0 (0 + ((IntKind.wrap .i64 (j9 - 1))).toNat) 0] (.i z_7) [] (cut_loadR (e := (D.int .i64)) (l := w_data_) (fz := false) (y := z_7) (by kernel_rfl) hz_7 (by kernel_rfl) (by kernel_rfl)) <| Rc 2 [⟨.ref [0] 0 0 (List.map (D.int .i64) w_data_).length 1, []⟩, vi j9] ?_
   obtain ⟨z_8, hz_8, h⟩ := bind_s h
   refine Rt (some 91) (.iaddrS 1) [] none [.ref [0] 0 0 (List.map (D.int .i64) w_data_).length 1, .i j9] (.eref [0] 0 (0 + (j9).toNat) 0) [] (cut_atR (e := (D.int .i64)) (l := w_data_) hz_8 rfl) <| Rt (some 92) (.load none) [] none [.eref [0] 0 (0 + (j9).toNat) 0] (.i z_8) [] (cut_loadR (e := (D.int .i64)) (l := w_data_) (fz := false) (y := z_8) (by kernel_rfl) hz_8 (by kernel_rfl) (by kernel_rfl)) ?_
   obtain ⟨z_9, hz_9, h⟩ := bind_s h
   refine Rt (some 93) (.iaddrS 1) [] none [.ref [0] 0 0 (List.map (D.int .i64) w_data_).length 1, .i j9] (.eref [0] 0 (0 + (j9).toNat) 0) [] (cut_atR (e := (D.int .i64)) (l := w_data_) hz_9 rfl) <| Rt none (.store 1) [] none [.eref [0] 0 (0 + (j9).toNat) 0, .i z_7] (.tup []) [([0], some (.arr (List.map (D.int .i64) (List.set w_data_ (j9).toNat z_7)) 0 false))] (cut_setR (e := (D.int .i64)) (l := w_data_) (y := z_9) (y' := z_7) (ds := [.int .i64 z_7]) (by kernel_rfl) hz_9 (by kernel_rfl) (by kernel_rfl) (by kernel_rfl) (by kernel_rfl)) ?_
   obtain ⟨z_10, hz_10, h⟩ := bind_s h
   refine Rt (some 94) (.iaddrS 1) [] none [.ref [0] 0 0 (List.map (D.int .i64) w_data_).length 1, .i (IntKind.wrap .i64 (j9 - 1))] (.eref [0] 0 (0 + ((IntKind.wrap .i64 (j9 - 1))).toNat) 0) [] (cut_atR (e := (D.int .i64)) (l := (List.set w_data_ (j9).toNat z_7)) hz_10 (by simp only [List.length_map, List.length_set, cpy_length] : (List.map (D.int .i64) w_data_).length = (List.map (D.int .i64) (List.set w_data_ (j9).toNat z_7)).length)) <| Rt none (.store 1) [] none [.eref [0] 0 (0 + ((IntKind.wrap .i64 (j9 - 1))).toNat) 0, .i z_8] (.tup []) [([0], some (.arr (List.map (D.int .i64) (List.set (List.set w_data_ (j9).toNat z_7) ((IntKind.wrap .i64 (j9 - 1))).toNat z_8)) 0 false))] (cut_setR (e := (D.int .i64)) (l := (List.set w_data_ (j9).toNat z_7)) (y := z_10) (y' := z_8) (ds := [.int .i64 z_8]) (by kernel_rfl) hz_10 (by kernel_rfl) (by kernel_rfl) (by kernel_rfl) (by kernel_rfl)) <| Rd <| kB_nrm <| kS_nrm <| Ro <| Rc 3 [vi j9, vi (IntKind.wrap .i64 (j9 - 1)), vi (IntKind.wrap .i64 (j9 - 1))] <| Rd ?_
   obtain rfl := sj h
   exact ⟨rfl, (), (Canon.len (f := fun n => slices_partialInsertionSortOrdered_int_h53n data_ (List.set (List.set w_data_ (j9).toNat z_7) ((IntKind.wrap .i64 (j9 - 1))).toNat z_8) a1 b2 i7 j8 (IntKind.wrap .i64 (j9 - 1)) n) ((by simp only [List.length_map, List.length_set, cpy_length] : (List.map (D.int .i64) w_data_).length = (List.map (D.int .i64) (List.set (List.set w_data_ (j9).toNat z_7) ((IntKind.wrap .i64 (j9 - 1))).toNat z_8)).length)).symm Cz)⟩
 | false =>
  replace h := ite_f hb_5 h
  refine Cf <| Runs.exit <| kS_exit ?_
  obtain rfl := sj h
  exact ⟨nofun, rfl, (), Cz⟩
theorem slices_partialInsertionSortOrdered_int_l77_ok (data_ : (List Int)) (a_ : Int) (b_ : Int) (data_ : (List Int)) (w_data_ : (List Int)) (a1 : Int) (b2 : Int) (i7 : Int) (j8 : Int) (j10 : Int) (r : (Lp ((List Int) × Int) (List Int))) (h : slices_partialInsertionSortOrdered_int_l77 data_ w_data_ a1 b2 i7 j8 j10 = some r) : Runs L F165l77 (slices_partialInsertionSortOrdered_int_h77 data_ w_data_ a1 b2 i7 j8 j10) (LQ [] [0, 1, 2, 7, 8, 10] [[0]] (fun (x : ((List Int) × Int)) (g : Unit) => slices_partialInsertionSortOrdered_int_h77 data_ x.1 a1 b2 i7 j8 x.2) (slices_partialInsertionSortOrdered_int_P77 data_ a_ b_ data_ a1 b2 i7 j8) r) := by
 unfold slices_partialInsertionSortOrdered_int_l77 at h
 refine Sq <| Sq <| Ro <| Rc 3 [vi j10, vi b2, vb (decide (j10 < b2))] <| Rk ?_
 cases hb_6 : ((decide (j10 < b2)) : Bool) with
 | true =>
  replace h := ite_t hb_6 h
  refine Ct <| Runs.skip <| kS_nrm <| Sq <| Runs.block <| Sq <| Sq <| Ro <| Rc 2 [⟨.ref [0] 0 0 (List.map (D.int .i64) w_data_).length 1, []⟩, vi j10] ?_
  obtain ⟨z_5, hz_5, h⟩ := bind_s h
  refine Rt (some 108) (.iaddrS 1) [] none [.ref [0] 0 0 (List.map (D.int .i64) w_data_).length 1, .i j10] (.eref [0] 0 (0 + (j10).toNat) 0) [] (cut_atR (e := (D.int .i64)) (l := w_data_) hz_5 rfl) <| Rt (some 109) (.load none) [] none [.eref [0] 0 (0 + (j10).toNat) 0] (.i z_5) [] (cut_loadR (e := (D.int .i64)) (l := w_data_) (fz := false) (y := z_5) (by kernel_rfl) hz_5 (by kernel_rfl) (by kernel_rfl)) <| Rc 3 [⟨.ref [0] 0 0 (List.map (D.int .i64) w_data_).length 1, []⟩, vi j10, vi (IntKind.wrap .i64 (j10 - 1))] ?_
  obtain ⟨z_6, hz_6, h⟩ := bind_s h
  refine Rt (some 113) (.iaddrS 1) [] none [.ref [0] 0 0 (List.map (D.int .i64) w_data_).length 1, .i (IntKind.wrap .i64 (j10 - 1))] (.eref [0] 0 (0 + ((IntKind.wrap .i64 (j10 - 1))).toNat) 0) [] (cut_atR (e := (D.int .i64)) (l := w_data_) hz_6 rfl) <| Rt (some 114) (.load none) [] none [.eref [0] 0 (0 + ((IntKind.wrap .i64 (j10 - 1))).toNat) 0] (.i z_6) [] (cut_loadR (e := (D.int .i64)) (l := w_data_) (fz := false) (y := z_6) (by kernel_rfl) hz_6 (by kernel_rfl) (by kernel_rfl)) ?_
  obtain ⟨r_1, hr_1, h⟩ := bind_s h
  have hc_1 := cmp_Less_int_L z_5 z_6 r_1 hr_1
  refine Rt (some 115) (.callf 166) [] none [.i z_5, .i z_6] (.b r_1) [] (cc hc_1) <| Rc 1 [vb (!r_1)] <| Rk ?_
  cases hb_7 : ((!r_1) : Bool) with
  | true =>
   replace h := ite_t hb_7 h
   refine Ct <| Runs.exit <| kS_exit <| kB_pass (by decide) <| kS_exit ?_
   obtain rfl := sj h
   exact ⟨nofun, rfl, (), Cz⟩
  | false =>
   replace h := ite_f hb_7 h
   refine Cf <| Runs.skip <| kS_nrm <| Ro <| Rc 8 [⟨.ref [0] 0 0 (List.map (D.int .i64) w_data_).length 1, []⟩, vi j10, ⟨.ref [0] 0 0 (List.map (D.int .i64) w_data_).length 1, []⟩, vi j10, vi (IntKind.wrap .i64 (j10 - 1)), ⟨.ref [0] 0 0 (List.map (D.int .i64) w_data_).length 1, []⟩, vi j10, vi (IntKind.wrap .i64 (j10 - 1))] ?_
   obtain ⟨z_7, hz_7, h⟩ := bind_s h
   refine Rt (some 125) (.iaddrS 1) [] none [.ref [0] 0 0 (List.map (D.int .i64) w_data_).length 1, .i (IntKind.wrap .i64 (j10 - 1))] (.eref [0] 0 (0 + ((IntKind.wrap .i64 (j10 - 1))).toNat) 0) [] (cut_atR (e := (D.int .i64)) (l := w_data_) hz_7 rfl) <| Rt (some 126) (.load none) [] none [.eref [0] 0 (0 + ((IntKind.wrap .i64 (j10 - 1))).toNat) 0] (.i z_7) [] (cut_loadR (e := (D.int .i64)) (l := w_data_) (fz := false) (y := z_7) (by kernel_rfl) hz_7 (by kernel_rfl) (by kernel_rfl)) <| Rc 2 [⟨.ref [0] 0 0 (List.map (D.int .i64) w_data_).length 1, []⟩, vi j10] ?_
   obtain ⟨z_8, hz_8, h⟩ := bind_s h
   refine Rt (some 129) (.iaddrS 1) [] none [.ref [0] 0 0 (List.map (D.int .i64) w_data_).length 1, .i j10] (.eref [0] 0 (0 + (j10).toNat) 0) [] (cut_atR (e := (D.int .i64)) (l := w_data_) hz_8 rfl) <| Rt (some 130) (.load none) [] none [.eref [0] 0 (0 + (j10).toNat) 0] (.i z_8) [] (cut_loadR (e := (D.int .i64)) (l := w_data_) (fz := false) (y := z_8) (by kernel_rfl) hz_8 (by kernel_rfl) (by kernel_rfl)) ?_
   obtain ⟨z_9, hz_9, h⟩ := bind_s h
   refine Rt (some 131) (.iaddrS 1) [] none [.ref [0] 0 0 (List.map (D.int .i64) w_data_).length 1, .i j10] (.eref [0] 0 (0 + (j10).toNat) 0) [] (cut_atR (e := (D.int .i64)) (l := w_data_) hz_9 rfl) <| Rt none (.store 1) [] none [.eref [0] 0 (0 + (j10).toNat) 0, .i z_7] (.tup []) [([0], some (.arr (List.map (D.int .i64) (List.set w_data_ (j10).toNat z_7)) 0 false))] (cut_setR (e := (D.int .i64)) (l := w_data_) (y := z_9) (y' := z_7) (ds := [.int .i64 z_7]) (by kernel_rfl) hz_9 (by kernel_rfl) (by kernel_rfl) (by kernel_rfl) (by kernel_rfl)) ?_
   obtain ⟨z_10, hz_10, h⟩ := bind_s h
   refine Rt (some 132) (.iaddrS 1) [] none [.ref [0] 0 0 (List.map (D.int .i64) w_data_).length 1, .i (IntKind.wrap .i64 (j10 - 1))] (.eref [0] 0 (0 + ((IntKind.wrap .i64 (j10 - 1))).toNat) 0) [] (cut_atR (e := (D.int .i64)) (l := (List.set w_data_ (j10).toNat z_7)) hz_10 (by simp only [List.length_map, List.length_set, cpy_length] : (List.map (D.int .i64) w_data_).length = (List.map (D.int .i64) (List.set w_data_ (j10).toNat z_7)).length)) <| Rt none (.store 1) [] none [.eref [0] 0 (0 + ((IntKind.wrap .i64 (j10 - 1))).toNat) 0, .i z_8] (.tup []) [([0], some (.arr (List.map (D.int .i64) (List.set (List.set w_data_ (j10).toNat z_7) ((IntKind.wrap .i64 (j10 - 1))).toNat z_8)) 0 false))] (cut_setR (e := (D.int .i64)) (l := (List.set w_data_ (j10).toNat z_7)) (y := z_10) (y' := z_8) (ds := [.int .i64 z_8]) (by kernel_rfl) hz_10 (by kernel_rfl) (by kernel_rfl) (by kernel_rfl) (by kernel_rfl)) <| Rd <| kB_nrm <| kS_nrm <| Ro <| Rc 3 [vi j10, vi (IntKind.wrap .i64 (j10 + 1)), vi (IntKind.wrap .i64 (j10 + 1))] <| Rd ?_
   obtain rfl := sj h
   exact ⟨rfl, (), (Canon.len (f := fun n => slices_partialInsertionSortOrdered_int_h77n data_ (List.set (List.set w_data_ (j10).toNat z_7) ((IntKind.wrap .i64 (j10 - 1))).toNat z_8) a1 b2 i7 j8 (IntKind.wrap .i64 (j10 + 1)) n) ((by simp only [List.length_map, List.length_set, cpy_length] : (List.map (D.int .i64) w_data_).length = (List.map (D.int .i64) (List.set (List.set w_data_ (j10).toNat z_7) ((IntKind.wrap .i64 (j10 - 1))).toNat z_8)).length)).symm Cz)⟩
 | false =>
  replace h := ite_f hb_6 h
  refine Cf <| Runs.exit <| kS_exit ?_
  obtain rfl := sj h
  exact ⟨nofun, rfl, (), Cz⟩
theorem slices_partialInsertionSortOrdered_int_j71_ok (data_ : (List Int)) (a_ : Int) (b_ : Int) (data_ : (List Int)) (w_data_ : (List Int)) (a1 : Int) (b2 : Int) (i7 : Int) (j8 : Int) (r : (Lp ((List Int) × Int × Int) ((Bool × (List Int)) ⊕ (List Int)))) (h : slices_partialInsertionSortOrdered_int_j71 data_ w_data_ a1 b2 i7 j8 = some r) : Runs L F165b71 (slices_partialInsertionSortOrdered_int_h71 data_ w_data_ a1 b2 i7 j8) (kB 1 (kS L F165c95 (LQ [] [0, 1, 2, 7, 8] [[0]] (fun (x : ((List Int) × Int × Int)) (g : Unit) => slices_partialInsertionSortOrdered_int_h8 data_ x.1 a1 b2 x.2.1 x.2.2) (slices_partialInsertionSortOrdered_int_P8 data_ a_ b_ data_ a1 b2) r))) := by
 unfold slices_partialInsertionSortOrdered_int_j71 at h
 refine Sq <| Ro <| Rc 4 [vi b2, vi i7, vi (IntKind.wrap .i64 (b2 - i7)), vb (decide ((IntKind.wrap .i64 (b2 - i7)) ≥ 2))] <| Rk ?_
 cases hb_5 : ((decide ((IntKind.wrap .i64 (b2 - i7)) ≥ 2)) : Bool) with
 | true =>
  replace h := ite_t hb_5 h
  refine Ct <| Sq <| Ro <| Rc 3 [vi i7, vi (IntKind.wrap .i64 (i7 + 1)), vi (IntKind.wrap .i64 (i7 + 1))] <| Rk <| Runs.block ?_
  obtain ⟨e_3, he_3, h⟩ := bind_s h
  refine Runs.loop (fun x : ((List Int) × Int) => slices_partialInsertionSortOrdered_int_l77 data_ x.1 a1 b2 i7 j8 x.2) (fun (x : ((List Int) × Int)) (g : Unit) => slices_partialInsertionSortOrdered_int_h77 data_ x.1 a1 b2 i7 j8 x.2) (slices_partialInsertionSortOrdered_int_P77 data_ a_ b_ data_ a1 b2 i7 j8) (fun x g r hr => slices_partialInsertionSortOrdered_int_l77_ok data_ a_ b_ data_ x.1 a1 b2 i7 j8 x.2  r hr) () he_3 Cz ?_
  rintro ⟨o, s⟩ hp
  obtain ⟨ho, g_3, hk_3⟩ := hp
  have ho' : o = .exit 6 := ho
  subst ho'
  refine kB_hit <| kB_nrm <| kS_nrm <| Runs.canon _ hk_3 <| Ro <| Rc 3 [vi j8, vi (IntKind.wrap .i64 (j8 + 1)), vi (IntKind.wrap .i64 (j8 + 1))] <| Rd ?_
  obtain rfl := sj h
  exact ⟨rfl, (), Cz⟩
 | false =>
  replace h := ite_f hb_5 h
  refine Cf <| Runs.skip <| kB_nrm <| kS_nrm <| Runs.canon (slices_partialInsertionSortOrdered_int_h95 data_ w_data_ a1 b2 i7 j8) Cz <| Ro <| Rc 3 [vi j8, vi (IntKind.wrap .i64 (j8 + 1)), vi (IntKind.wrap .i64 (j8 + 1))] <| Rd ?_
  obtain rfl := sj h
  exact ⟨rfl, (), Cz⟩
theorem slices_partialInsertionSortOrdered_int_l8_ok (data_ : (List Int)) (a_ : Int) (b_ : Int) (data_ : (List Int)) (w_data_ : (List Int)) (a1 : Int) (b2 : Int) (i7 : Int) (j8 : Int) (r : (Lp ((List Int) × Int × Int) ((Bool × (List Int)) ⊕ (List Int)))) (h : slices_partialInsertionSortOrdered_int_l8 data_ w_data_ a1 b2 i7 j8 = some r) : Runs L F165l8 (slices_partialInsertionSortOrdered_int_h8 data_ w_data_ a1 b2 i7 j8) (LQ [] [0, 1, 2, 7, 8] [[0]] (fun (x : ((List Int) × Int × Int)) (g : Unit) => slices_partialInsertionSortOrdered_int_h8 data_ x.1 a1 b2 x.2.1 x.2.2) (slices_partialInsertionSortOrdered_int_P8 data_ a_ b_ data_ a1 b2) r) := by
 unfold slices_partialInsertionSortOrdered_int_l8 at h
 refine Sq <| Sq <| Ro <| Rc 2 [vi j8, vb (decide (j8 < 5))] <| Rk ?_
 cases hb_1 : ((decide (j8 < 5)) : Bool) with
 | true =>
  replace h := ite_t hb_1 h
  refine Ct <| Runs.skip <| kS_nrm <| Sq <| Runs.block <| Sq <| Runs.block ?_
  obtain ⟨e_1, he_1, h⟩ := bind_s h
  refine Runs.loop (fun x : Int => slices_partialInsertionSortOrdered_int_l19 data_ w_data_ a1 b2 x j8) (fun (x : Int) (g : Unit) => slices_partialInsertionSortOrdered_int_h19 data_ w_data_ a1 b2 x j8) (slices_partialInsertionSortOrdered_int_P19 data_ a_ b_ data_ w_data_ a1 b2 j8) (fun x g r hr => slices_partialInsertionSortOrdered_int_l19_ok data_ a_ b_ data_ w_data_ a1 b2 x j8  r hr) () he_1 Cz ?_
  rintro ⟨o, s⟩ hp
  obtain ⟨ho, g_1, hk_1⟩ := hp
  have ho' : o = .exit 2 := ho
  subst ho'
  refine kB_hit <| kS_nrm <| Runs.canon _ hk_1 <| Sq <| Sq <| Ro <| Rc 3 [vi e_1, vi b2, vb (e_1 == b2)] <| Rk ?_
  cases hb_2 : ((e_1 == b2) : Bool) with
  | true =>
   replace h := ite_t hb_2 h
   refine Ct <| Sq <| Ro <| Rc 1 [vb true] <| Rk <| Runs.ret <| kS_ret <| kB_ret <| kS_ret ?_
   try dsimp only at h
   by_cases hlw0 : w_data_.length = data_.length
   case neg => rw [if_neg hlw0] at h; cases h
   rw [if_pos hlw0] at h
   obtain rfl := sj h
   exact ⟨nofun, rfl, (fin_ofL (rs := [.b true]) (by kernel_rfl) (map_cons_ (lendP_of (fz := false) (es := List.map (D.int .i64) w_data_) (by kernel_rfl) (by rw [List.length_map, List.length_map, hlw0] : (List.map (D.int .i64) data_).length = (List.map (D.int .i64) w_data_).length) (by decide)) (map_cons_ rfl (map_cons_ rfl map_nil_))) (by kernel_rfl) (outs_d outs_nil) (gives_cons (give_lref (fz := false) (es := List.map (D.int .i64) w_data_) (by kernel_rfl) (by rw [List.length_map, List.length_map, hlw0] : (List.map (D.int .i64) data_).length = (List.map (D.int .i64) w_data_).length) (by kernel_rfl) (by decide)) (gives_cons (give_same (by kernel_rfl)) (gives_cons (give_same (by kernel_rfl)) gives_nil))))⟩
  | false =>
   replace h := ite_f hb_2 h
   refine Cf <| Runs.skip <| kS_nrm <| Sq <| Sq <| Ro <| Rc 4 [vi b2, vi a1, vi (IntKind.wrap .i64 (b2 - a1)), vb (decide ((IntKind.wrap .i64 (b2 - a1)) < 50))] <| Rk ?_
   cases hb_3 : ((decide ((IntKind.wrap .i64 (b2 - a1)) < 50)) : Bool) with
   | true =>
    replace h := ite_t hb_3 h
    refine Ct <| Sq <| Ro <| Rc 1 [vb false] <| Rk <| Runs.ret <| kS_ret <| kB_ret <| kS_ret ?_
    try dsimp only at h
    by_cases hlw0 : w_data_.length = data_.length
    case neg => rw [if_neg hlw0] at h; cases h
    rw [if_pos hlw0] at h
    obtain rfl := sj h
    exact ⟨nofun, rfl, (fin_ofL (rs := [.b false]) (by kernel_rfl) (map_cons_ (lendP_of (fz := false) (es := List.map (D.int .i64) w_data_) (by kernel_rfl) (by rw [List.length_map, List.length_map, hlw0] : (List.map (D.int .i64) data_).length = (List.map (D.int .i64) w_data_).length) (by decide)) (map_cons_ rfl (map_cons_ rfl map_nil_))) (by kernel_rfl) (outs_d outs_nil) (gives_cons (give_lref (fz := false) (es := List.map (D.int .i64) w_data_) (by kernel_rfl) (by rw [List.length_map, List.length_map, hlw0] : (List.map (D.int .i64) data_).length = (List.map (D.int .i64) w_data_).length) (by kernel_rfl) (by decide)) (gives_cons (give_same (by kernel_rfl)) (gives_cons (give_same (by kernel_rfl)) gives_nil))))⟩
   | false =>
    replace h := ite_f hb_3 h
    refine Cf <| Runs.skip <| kS_nrm <| Sq <| Ro <| Rc 8 [⟨.ref [0] 0 0 (List.map (D.int .i64) w_data_).length 1, []⟩, vi e_1, ⟨.ref [0] 0 0 (List.map (D.int .i64) w_data_).length 1, []⟩, vi e_1, vi (IntKind.wrap .i64 (e_1 - 1)), ⟨.ref [0] 0 0 (List.map (D.int .i64) w_data_).length 1, []⟩, vi e_1, vi (IntKind.wrap .i64 (e_1 - 1))] ?_
    obtain ⟨z_1, hz_1, h⟩ := bind_s h
    refine Rt (some 50) (.iaddrS 1) [] none [.ref [0] 0 0 (List.map (D.int .i64) w_data_).length 1, .i (IntKind.wrap .i64 (e_1 - 1))] (.eref [0] 0 (0 + ((IntKind.wrap .i64 (e_1 - 1))).toNat) 0) [] (cut_atR (e := (D.int .i64)) (l := w_data_) hz_1 rfl) <| Rt (some 51) (.load none) [] none [.eref [0] 0 (0 + ((IntKind.wrap .i64 (e_1 - 1))).toNat) 0] (.i z_1) [] (cut_loadR (e := (D.int .i64)) (l := w_data_) (fz := false) (y := z_1) (by kernel_rfl) hz_1 (by kernel_rfl) (by kernel_rfl)) <| Rc 2 [⟨.ref [0] 0 0 (List.map (D.int .i64) w_data_).length 1, []⟩, vi e_1] ?_
    obtain ⟨z_2, hz_2, h⟩ := bind_s h
    refine Rt (some 54) (.iaddrS 1) [] none [.ref [0] 0 0 (List.map (D.int .i64) w_data_).length 1, .i e_1] (.eref [0] 0 (0 + (e_1).toNat) 0) [] (cut_atR (e := (D.int .i64)) (l := w_data_) hz_2 rfl) <| Rt (some 55) (.load none) [] none [.eref [0] 0 (0 + (e_1).toNat) 0] (.i z_2) [] (cut_loadR (e := (D.int .i64)) (l := w_data_) (fz := false) (y := z_2) (by kernel_rfl) hz_2 (by kernel_rfl) (by kernel_rfl)) ?_
    obtain ⟨z_3, hz_3, h⟩ := bind_s h
    refine Rt (some 56) (.iaddrS 1) [] none [.ref [0] 0 0 (List.map (D.int .i64) w_data_).length 1, .i e_1] (.eref [0] 0 (0 + (e_1).toNat) 0) [] (cut_atR (e := (D.int .i64)) (l := w_data_) hz_3 rfl) <| Rt none (.store 1) [] none [.eref [0] 0 (0 + (e_1).toNat) 0, .i z_1] (.tup []) [([0], some (.arr (List.map (D.int .i64) (List.set w_data_ (e_1).toNat z_1)) 0 false))] (cut_setR (e := (D.int .i64)) (l := w_data_) (y := z_3) (y' := z_1) (ds := [.int .i64 z_1]) (by kernel_rfl) hz_3 (by kernel_rfl) (by kernel_rfl) (by kernel_rfl) (by kernel_rfl)) ?_
    obtain ⟨z_4, hz_4, h⟩ := bind_s h
    refine Rt (some 57) (.iaddrS 1) [] none [.ref [0] 0 0 (List.map (D.int .i64) w_data_).length 1, .i (IntKind.wrap .i64 (e_1 - 1))] (.eref [0] 0 (0 + ((IntKind.wrap .i64 (e_1 - 1))).toNat) 0) [] (cut_atR (e := (D.int .i64)) (l := (List.set w_data_ (e_1).toNat z_1)) hz_4 (by simp only [List.length_map, List.length_set, cpy_length] : (List.map (D.int .i64) w_data_).length = (List.map (D.int .i64) (List.set w_data_ (e_1).toNat z_1)).length)) <| Rt none (.store 1) [] none [.eref [0] 0 (0 + ((IntKind.wrap .i64 (e_1 - 1))).toNat) 0, .i z_2] (.tup []) [([0], some (.arr (List.map (D.int .i64) (List.set (List.set w_data_ (e_1).toNat z_1) ((IntKind.wrap .i64 (e_1 - 1))).toNat z_2)) 0 false))] (cut_setR (e := (D.int .i64)) (l := (List.set w_data_ (e_1).toNat z_1)) (y := z_4) (y' := z_2) (ds := [.int .i64 z_2]) (by kernel_rfl) hz_4 (by kernel_rfl) (by kernel_rfl) (by kernel_rfl) (by kernel_rfl)) <| Rk <| Sq <| Sq <| Ro <| Rc 4 [vi e_1, vi a1, vi (IntKind.wrap .i64 (e_1 - a1)), vb (decide ((IntKind.wrap .i64 (e_1 - a1)) ≥ 2))] <| Rk ?_
    cases hb_4 : ((decide ((IntKind.wrap .i64 (e_1 - a1)) ≥ 2)) : Bool) with
    | true =>
     replace h := ite_t hb_4 h
     refine Ct <| Sq <| Ro <| Rc 3 [vi e_1, vi (IntKind.wrap .i64 (e_1 - 1)), vi (IntKind.wrap .i64 (e_1 - 1))] <| Rk <| Runs.block ?_
     obtain ⟨e_2, he_2, h⟩ := bind_s h
     refine Runs.loop (fun x : ((List Int) × Int) => slices_partialInsertionSortOrdered_int_l53 data_ x.1 a1 b2 e_1 j8 x.2) (fun (x : ((List Int) × Int)) (g : Unit) => slices_partialInsertionSortOrdered_int_h53 data_ x.1 a1 b2 e_1 j8 x.2) (slices_partialInsertionSortOrdered_int_P53 data_ a_ b_ data_ a1 b2 e_1 j8) (fun x g r hr => slices_partialInsertionSortOrdered_int_l53_ok data_ a_ b_ data_ x.1 a1 b2 e_1 j8 x.2  r hr) () he_2 (Canon.len (f := fun n => slices_partialInsertionSortOrdered_int_h53n data_ (List.set (List.set w_data_ (e_1).toNat z_1) ((IntKind.wrap .i64 (e_1 - 1))).toNat z_2) a1 b2 e_1 j8 (IntKind.wrap .i64 (e_1 - 1)) n) ((by simp only [List.length_map, List.length_set, cpy_length] : (List.map (D.int .i64) w_data_).length = (List.map (D.int .i64) (List.set (List.set w_data_ (e_1).toNat z_1) ((IntKind.wrap .i64 (e_1 - 1))).toNat z_2)).length)).symm Cz) ?_
     rintro ⟨o, s⟩ hp
     obtain ⟨ho, g_2, hk_2⟩ := hp
     have ho' : o = .exit 4 := ho
     subst ho'
     refine kB_hit <| kS_nrm <| Runs.canon _ hk_2 ?_
     exact slices_partialInsertionSortOrdered_int_j71_ok data_ a_ b_ data_ e_2 a1 b2 e_1 j8 r h
    | false =>
     replace h := ite_f hb_4 h
     refine Cf <| Runs.skip <| kS_nrm <| Runs.canon (slices_partialInsertionSortOrdered_int_h71 data_ (List.set (List.set w_data_ (e_1).toNat z_1) ((IntKind.wrap .i64 (e_1 - 1))).toNat z_2) a1 b2 e_1 j8) (Canon.len (f := fun n => slices_partialInsertionSortOrdered_int_h71n data_ (List.set (List.set w_data_ (e_1).toNat z_1) ((IntKind.wrap .i64 (e_1 - 1))).toNat z_2) a1 b2 e_1 j8 n) ((by simp only [List.length_map, List.length_set, cpy_length] : (List.map (D.int .i64) w_data_).length = (List.map (D.int .i64) (List.set (List.set w_data_ (e_1).toNat z_1) ((IntKind.wrap .i64 (e_1 - 1))).toNat z_2)).length)).symm Cz) ?_
     exact slices_partialInsertionSortOrdered_int_j71_ok data_ a_ b_ data_ (List.set (List.set w_data_ (e_1).toNat z_1) ((IntKind.wrap .i64 (e_1 - 1))).toNat z_2) a1 b2 e_1 j8 r h
 | false =>
  replace h := ite_f hb_1 h
  refine Cf <| Runs.exit <| kS_exit ?_
  obtain rfl := sj h
  exact ⟨nofun, rfl, (), Cz⟩
theorem slices_partialInsertionSortOrdered_int_ok (data_ : (List Int)) (a_ : Int) (b_ : Int) (r : (Bool × (List Int))) (h : slices_partialInsertionSortOrdered_int data_ a_ b_ = some r) : Runs L F165.body ⟨tmOf [.ref [0] 0 0 (List.map (D.int .i64) data_).length 1, .i a_, .i b_] 0, updW (fun _ => none) [([0], some (.arr (List.map (D.int .i64) data_) 0 false))]⟩ (slices_partialInsertionSortOrdered_int_Q data_ a_ b_ r) := by
 unfold slices_partialInsertionSortOrdered_int at h
 refine Sq <| Ro <| Rc 1 [vb false] <| Rk <| Sq <| Ro <| Rc 3 [vi a_, vi (IntKind.wrap .i64 (a_ + 1)), vi (IntKind.wrap .i64 (a_ + 1))] <| Rk <| Sq <| Sq <| Ro <| Rc 1 [vi 0] <| Rk <| Runs.block ?_
 obtain ⟨e_1, he_1, h⟩ := bind_s h
 refine Runs.loop (fun x : ((List Int) × Int × Int) => slices_partialInsertionSortOrdered_int_l8 data_ x.1 a_ b_ x.2.1 x.2.2) (fun (x : ((List Int) × Int × Int)) (g : Unit) => slices_partialInsertionSortOrdered_int_h8 data_ x.1 a_ b_ x.2.1 x.2.2) (slices_partialInsertionSortOrdered_int_P8 data_ a_ b_ data_ a_ b_) (fun x g r hr => slices_partialInsertionSortOrdered_int_l8_ok data_ a_ b_ data_ x.1 a_ b_ x.2.1 x.2.2  r hr) () he_1 Cz ?_
 rintro ⟨o, s⟩ hp
 cases e_1 with
 | inl e_2 =>
  obtain ⟨ho, hf⟩ := hp
  have ho' : o = .ret := ho
  subst ho'
  refine kB_ret <| kS_ret ?_
  obtain rfl := sj h
  exact ⟨Out.ret_ne, hf⟩
 | inr e_3 =>
  obtain ⟨ho, g_1, hk_1⟩ := hp
  have ho' : o = .exit 0 := ho
  subst ho'
  refine kB_hit <| kS_nrm <| Runs.canon _ hk_1 <| Sq <| Ro <| Rc 1 [vb false] <| Rk <| Runs.ret ?_
  try dsimp only at h
  by_cases hlw0 : e_3.length = data_.length
  case neg => rw [if_neg hlw0] at h; cases h
  rw [if_pos hlw0] at h
  obtain rfl := sj h
  exact ⟨Out.ret_ne, (fin_ofL (rs := [.b false]) (by kernel_rfl) (map_cons_ (lendP_of (fz := false) (es := List.map (D.int .i64) e_3) (by kernel_rfl) (by rw [List.length_map, List.length_map, hlw0] : (List.map (D.int .i64) data_).length = (List.map (D.int .i64) e_3).length) (by decide)) (map_cons_ rfl (map_cons_ rfl map_nil_))) (by kernel_rfl) (outs_d outs_nil) (gives_cons (give_lref (fz := false) (es := List.map (D.int .i64) e_3) (by kernel_rfl) (by rw [List.length_map, List.length_map, hlw0] : (List.map (D.int .i64) data_).length = (List.map (D.int .i64) e_3).length) (by kernel_rfl) (by decide)) (gives_cons (give_same (by kernel_rfl)) (gives_cons (give_same (by kernel_rfl)) gives_nil))))⟩
theorem slices_partialInsertionSortOrdered_int_L (data_ : (List Int)) (a_ : Int) (b_ : Int) (r : (Bool × (List Int))) (h : slices_partialInsertionSortOrdered_int data_ a_ b_ = some r) : L 165 [.arr false 1 (List.map (D.int .i64) data_), .i a_, .i b_] = some (.b r.1, [.arr false 1 (List.map (D.int .i64) r.2), .i a_, .i b_]) := by
 obtain ⟨p, ⟨hne, hf⟩, hr⟩ := slices_partialInsertionSortOrdered_int_ok data_ a_ b_ r h
 obtain ⟨k, hk⟩ := run_of (F := F165) (args := [.arr false 1 (List.map (D.int .i64) data_), .i a_, .i b_]) (ap := [.ref [0] 0 0 (List.map (D.int .i64) data_).length 1, .i a_, .i b_]) (bx0 := updW (fun _ => none) [([0], some (.arr (List.map (D.int .i64) data_) 0 false))]) rfl rfl (by kernel_rfl) ⟨p, ⟨hne, hf⟩, hr⟩
 exact lim_run (k := k) rfl hk
def slices_partitionEqualOrdered_int_h8n (data_ : (List Int)) (w_data_ : (List Int)) (a1 : Int) (i9 : Int) (j10 : Int) (n_0 : Nat) : St := ⟨tab [(0, .ref [0] 0 0 n_0 1), (1, .i a1), (9, .i i9), (10, .i j10)], tabB [([0], some (.arr (List.map (D.int .i64) w_data_) 0 false))]⟩
def slices_partitionEqualOrdered_int_h8 (data_ : (List Int)) (w_data_ : (List Int)) (a1 : Int) (i9 : Int) (j10 : Int) : St := slices_partitionEqualOrdered_int_h8n data_ w_data_ a1 i9 j10 (List.map (D.int .i64) w_data_).length
def slices_partitionEqualOrdered_int_h12 (data_ : (List Int)) (w_data_ : (List Int)) (a1 : Int) (i9 : Int) (j10 : Int) : St := ⟨tab [(0, .ref [0] 0 0 (List.map (D.int .i64) w_data_).length 1), (1, .i a1), (9, .i i9), (10, .i j10)], tabB [([0], some (.arr (List.map (D.int .i64) w_data_) 0 false))]⟩
def slices_partitionEqualOrdered_int_h21 (data_ : (List Int)) (w_data_ : (List Int)) (a1 : Int) (i9 : Int) (j10 : Int) : St := ⟨tab [(0, .ref [0] 0 0 (List.map (D.int .i64) w_data_).length 1), (1, .i a1), (9, .i i9), (10, .i j10)], tabB [([0], some (.arr (List.map (D.int .i64) w_data_) 0 false))]⟩
def slices_partitionEqualOrdered_int_h23 (data_ : (List Int)) (w_data_ : (List Int)) (a1 : Int) (i9 : Int) (j10 : Int) : St := ⟨tab [(0, .ref [0] 0 0 (List.map (D.int .i64) w_data_).length 1), (1, .i a1), (9, .i i9), (10, .i j10)], tabB [([0], some (.arr (List.map (D.int .i64) w_data_) 0 false))]⟩
def slices_partitionEqualOrdered_int_h32 (data_ : (List Int)) (w_data_ : (List Int)) (a1 : Int) (i9 : Int) (j10 : Int) : St := ⟨tab [(0, .ref [0] 0 0 (List.map (D.int .i64) w_data_).length 1), (1, .i a1), (9, .i i9), (10, .i j10)], tabB [([0], some (.arr (List.map (D.int .i64) w_data_) 0 false))]⟩
def slices_partitionEqualOrdered_int_h43 (data_ : (List Int)) (w_data_ : (List Int)) (i9 : Int) : St := ⟨tab [(9, .i i9)], tabB [([0], some (.arr (List.map (D.int .i64) w_data_) 0 false))]⟩
def slices_partitionEqualOrdered_int_Q (data_ : (List Int)) (a_ : Int) (b_ : Int) (pivot_ : Int) (r : (Int × (List Int))) (p : Out × St) : Prop := (∀ i, p.1 ≠ .exit i) ∧ finF F167 [.ref [0] 0 0 (List.map (D.int .i64) data_).length 1, .i a_, .i b_, .i pivot_] p.2 = some (.i r.1, [.arr false 1 (List.map (D.int .i64) r.2), .i a_, .i b_, .i pivot_])
def slices_partitionEqualOrdered_int_P12 (data_ : (List Int)) (a_ : Int) (b_ : Int) (pivot_ : Int) (data_ : (List Int)) (w_data_ : (List Int)) (a1 : Int) (j10 : Int) (e : Int) (p : Out × St) : Prop := p.1 = .exit 2 ∧ ∃ g : Unit, Canon [] [0, 1, 9, 10] [[0]] p.2 (slices_partitionEqualOrdered_int_h21 data_ w_data_ a1 e j10)
def slices_partitionEqualOrdered_int_P23 (data_ : (List Int)) (a_ : Int) (b_ : Int) (pivot_ : Int) (data_ : (List Int)) (w_data_ : (List Int)) (a1 : Int) (i9 : Int) (e : Int) (p : Out × St) : Prop := p.1 = .exit 4 ∧ ∃ g : Unit, Canon [] [0, 1, 9, 10] [[0]] p.2 (slices_partitionEqualOrdered_int_h32 data_ w_data_ a1 i9 e)
def slices_partitionEqualOrdered_int_P8 (data_ : (List Int)) (a_ : Int) (b_ : Int) (pivot_ : Int) (data_ : (List Int)) (a1 : Int) (e : ((List Int) × Int)) (p : Out × St) : Prop := p.1 = .exit 0 ∧ ∃ g : Unit, Canon [] [9] [[0]] p.2 (slices_partitionEqualOrdered_int_h43 data_ e.1 e.2)
theorem slices_partitionEqualOrdered_int_l12_ok (data_ : (List Int)) (a_ : Int) (b_ : Int) (pivot_ : Int) (data_ : (List Int)) (w_data_ : (List Int)) (a1 : Int) (i9 : Int) (j10 : Int) (r : (Lp Int Int)) (h : slices_partitionEqualOrdered_int_l12 data_ w_data_ a1 i9 j10 = some r) : Runs L F167l12 (slices_partitionEqualOrdered_int_h12 data_ w_data_ a1 i9 j10) (LQ [] [0, 1, 9, 10] [[0]] (fun (x : Int) (g : Unit) => slices_partitionEqualOrdered_int_h12 data_ w_data_ a1 x j10) (slices_partitionEqualOrdered_int_P12 data_ a_ b_ pivot_ data_ w_data_ a1 j10) r) := by
 unfold slices_partitionEqualOrdered_int_l12 at h
 refine Sq <| Sq <| Ro <| Rc 4 [vi i9, vi j10, vb (decide (i9 ≤ j10)), vb (decide (i9 ≤ j10))] ?_
 cases hb_1 : ((decide (i9 ≤ j10)) : Bool) with
 | true =>
  replace h := ite_t hb_1 h
  refine Rc 2 [⟨.ref [0] 0 0 (List.map (D.int .i64) w_data_).length 1, []⟩, vi a1] ?_
  obtain ⟨z_5, hz_5, h⟩ := bind_s h
  refine Rt (some 35) (.iaddrS 1) [] none [.ref [0] 0 0 (List.map (D.int .i64) w_data_).length 1, .i a1] (.eref [0] 0 (0 + (a1).toNat) 0) [] (cut_atR (e := (D.int .i64)) (l := w_data_) hz_5 rfl) <| Rt (some 36) (.load none) [] none [.eref [0] 0 (0 + (a1).toNat) 0] (.i z_5) [] (cut_loadR (e := (D.int .i64)) (l := w_data_) (fz := false) (y := z_5) (by kernel_rfl) hz_5 (by kernel_rfl) (by kernel_rfl)) <| Rc 2 [⟨.ref [0] 0 0 (List.map (D.int .i64) w_data_).length 1, []⟩, vi i9] ?_
  obtain ⟨z_6, hz_6, h⟩ := bind_s h
  refine Rt (some 39) (.iaddrS 1) [] none [.ref [0] 0 0 (List.map (D.int .i64) w_data_).length 1, .i i9] (.eref [0] 0 (0 + (i9).toNat) 0) [] (cut_atR (e := (D.int .i64)) (l := w_data_) hz_6 rfl) <| Rt (some 40) (.load none) [] none [.eref [0] 0 (0 + (i9).toNat) 0] (.i z_6) [] (cut_loadR (e := (D.int .i64)) (l := w_data_) (fz := false) (y := z_6) (by kernel_rfl) hz_6 (by kernel_rfl) (by kernel_rfl)) ?_
  obtain ⟨r_1, hr_1, h⟩ := bind_s h
  have hc_1 := cmp_Less_int_L z_5 z_6 r_1 hr_1
  refine Rt (some 41) (.callf 166) [] none [.i z_5, .i z_6] (.b r_1) [] (cc hc_1) <| Rc 2 [vb (!r_1), vb (!r_1)] <| Rk ?_
  cases hb_2 : ((!r_1) : Bool) with
  | true =>
   replace h := ite_t hb_2 h
   refine Ct <| Runs.skip <| kS_nrm <| Runs.block <| Ro <| Rc 3 [vi i9, vi (IntKind.wrap .i64 (i9 + 1)), vi (IntKind.wrap .i64 (i9 + 1))] <| Rd <| kB_nrm ?_
   obtain rfl := sj h
   exact ⟨rfl, (), Cz⟩
  | false =>
   replace h := ite_f hb_2 h
   refine Cf <| Runs.exit <| kS_exit ?_
   obtain rfl := sj h
   exact ⟨nofun, rfl, (), Cz⟩
 | false =>
  replace h := ite_f hb_1 h
  refine Rc 11 [vn, vn, vn, vn, vn, vn, vn, vn, vn, vn, vb false] <| Rk <| Cf <| Runs.exit <| kS_exit ?_
  obtain rfl := sj h
  exact ⟨nofun, rfl, (), Cz⟩
theorem slices_partitionEqualOrdered_int_l23_ok (data_ : (List Int)) (a_ : Int) (b_ : Int) (pivot_ : Int) (data_ : (List Int)) (w_data_ : (List Int)) (a1 : Int) (i9 : Int) (j10 : Int) (r : (Lp Int Int)) (h : slices_partitionEqualOrdered_int_l23 data_ w_data_ a1 i9 j10 = some r) : Runs L F167l23 (slices_partitionEqualOrdered_int_h23 data_ w_data_ a1 i9 j10) (LQ [] [0, 1, 9, 10] [[0]] (fun (x : Int) (g : Unit) => slices_partitionEqualOrdered_int_h23 data_ w_data_ a1 i9 x) (slices_partitionEqualOrdered_int_P23 data_ a_ b_ pivot_ data_ w_data_ a1 i9) r) := by
 unfold slices_partitionEqualOrdered_int_l23 at h
 refine Sq <| Sq <| Ro <| Rc 4 [vi i9, vi j10, vb (decide (i9 ≤ j10)), vb (decide (i9 ≤ j10))] ?_
 cases hb_1 : ((decide (i9 ≤ j10)) : Bool) with
 | true =>
  replace h := ite_t hb_1 h
  refine Rc 2 [⟨.ref [0] 0 0 (List.map (D.int .i64) w_data_).length 1, []⟩, vi a1] ?_
  obtain ⟨z_5, hz_5, h⟩ := bind_s h
  refine Rt (some 52) (.iaddrS 1) [] none [.ref [0] 0 0 (List.map (D.int .i64) w_data_).length 1, .i a1] (.eref [0] 0 (0 + (a1).toNat) 0) [] (cut_atR (e := (D.int .i64)) (l := w_data_) hz_5 rfl) <| Rt (some 53) (.load none) [] none [.eref [0] 0 (0 + (a1).toNat) 0] (.i z_5) [] (cut_loadR (e := (D.int .i64)) (l := w_data_) (fz := false) (y := z_5) (by kernel_rfl) hz_5 (by kernel_rfl) (by kernel_rfl)) <| Rc 2 [⟨.ref [0] 0 0 (List.map (D.int .i64) w_data_).length 1, []⟩, vi j10] ?_
  obtain ⟨z_6, hz_6, h⟩ := bind_s h
  refine Rt (some 56) (.iaddrS 1) [] none [.ref [0] 0 0 (List.map (D.int .i64) w_data_).length 1, .i j10] (.eref [0] 0 (0 + (j10).toNat) 0) [] (cut_atR (e := (D.int .i64)) (l := w_data_) hz_6 rfl) <| Rt (some 57) (.load none) [] none [.eref [0] 0 (0 + (j10).toNat) 0] (.i z_6) [] (cut_loadR (e := (D.int .i64)) (l := w_data_) (fz := false) (y := z_6) (by kernel_rfl) hz_6 (by kernel_rfl) (by kernel_rfl)) ?_
  obtain ⟨r_1, hr_1, h⟩ := bind_s h
  have hc_1 := cmp_Less_int_L z_5 z_6 r_1 hr_1
  refine Rt (some 58) (.callf 166) [] none [.i z_5, .i z_6] (.b r_1) [] (cc hc_1) <| Rc 1 [vb r_1] <| Rk ?_
  cases hb_2 : (r_1 : Bool) with
  | true =>
   replace h := ite_t hb_2 h
   refine Ct <| Runs.skip <| kS_nrm <| Runs.block <| Ro <| Rc 3 [vi j10, vi (IntKind.wrap .i64 (j10 - 1)), vi (IntKind.wrap .i64 (j10 - 1))] <| Rd <| kB_nrm ?_
   obtain rfl := sj h
   exact ⟨rfl, (), Cz⟩
  | false =>
   replace h := ite_f hb_2 h
   refine Cf <| Runs.exit <| kS_exit ?_
   obtain rfl := sj h
   exact ⟨nofun, rfl, (), Cz⟩
 | false =>
  replace h := ite_f hb_1 h
  refine Rc 10 [vn, vn, vn, vn, vn, vn, vn, vn, vn, vb false] <| Rk <| Cf <| Runs.exit <| kS_exit ?_
  obtain rfl := sj h
  exact ⟨nofun, rfl, (), Cz⟩
theorem slices_partitionEqualOrdered_int_l8_ok (data_ : (List Int)) (a_ : Int) (b_ : Int) (pivot_ : Int) (data_ : (List Int)) (w_data_ : (List Int)) (a1 : Int) (i9 : Int) (j10 : Int) (r : (Lp ((List Int) × Int × Int) ((List Int) × Int))) (h : slices_partitionEqualOrdered_int_l8 data_ w_data_ a1 i9 j10 = some r) : Runs L F167l8 (slices_partitionEqualOrdered_int_h8 data_ w_data_ a1 i9 j10) (LQ [] [0, 1, 9, 10] [[0]] (fun (x : ((List Int) × Int × Int)) (g : Unit) => slices_partitionEqualOrdered_int_h8 data_ x.1 a1 x.2.1 x.2.2) (slices_partitionEqualOrdered_int_P8 data_ a_ b_ pivot_ data_ a1) r) := by
 unfold slices_partitionEqualOrdered_int_l8 at h
 refine Runs.block <| Sq <| Runs.block ?_
 obtain ⟨e_1, he_1, h⟩ := bind_s h
 refine Runs.loop (fun x : Int => slices_partitionEqualOrdered_int_l12 data_ w_data_ a1 x j10) (fun (x : Int) (g : Unit) => slices_partitionEqualOrdered_int_h12 data_ w_data_ a1 x j10) (slices_partitionEqualOrdered_int_P12 data_ a_ b_ pivot_ data_ w_data_ a1 j10) (fun x g r hr => slices_partitionEqualOrdered_int_l12_ok data_ a_ b_ pivot_ data_ w_data_ a1 x j10  r hr) () he_1 Cz ?_
 rintro ⟨o, s⟩ hp
 obtain ⟨ho, g_1, hk_1⟩ := hp
 have ho' : o = .exit 2 := ho
 subst ho'
 refine kB_hit <| kS_nrm <| Runs.canon _ hk_1 <| Sq <| Runs.block ?_
 obtain ⟨e_2, he_2, h⟩ := bind_s h
 refine Runs.loop (fun x : Int => slices_partitionEqualOrdered_int_l23 data_ w_data_ a1 e_1 x) (fun (x : Int) (g : Unit) => slices_partitionEqualOrdered_int_h23 data_ w_data_ a1 e_1 x) (slices_partitionEqualOrdered_int_P23 data_ a_ b_ pivot_ data_ w_data_ a1 e_1) (fun x g r hr => slices_partitionEqualOrdered_int_l23_ok data_ a_ b_ pivot_ data_ w_data_ a1 e_1 x  r hr) () he_2 Cz ?_
 rintro ⟨o, s⟩ hp
 obtain ⟨ho, g_2, hk_2⟩ := hp
 have ho' : o = .exit 4 := ho
 subst ho'
 refine kB_hit <| kS_nrm <| Runs.canon _ hk_2 <| Sq <| Sq <| Ro <| Rc 3 [vi e_1, vi e_2, vb (decide (e_1 > e_2))] <| Rk ?_
 cases hb_1 : ((decide (e_1 > e_2)) : Bool) with
 | true =>
  replace h := ite_t hb_1 h
  refine Ct <| Runs.exit <| kS_exit <| kB_pass (by decide) ?_
  obtain rfl := sj h
  exact ⟨nofun, rfl, (), Cz⟩
 | false =>
  replace h := ite_f hb_1 h
  refine Cf <| Runs.skip <| kS_nrm <| Sq <| Ro <| Rc 6 [⟨.ref [0] 0 0 (List.map (D.int .i64) w_data_).length 1, []⟩, vi e_1, ⟨.ref [0] 0 0 (List.map (D.int .i64) w_data_).length 1, []⟩, vi e_2, ⟨.ref [0] 0 0 (List.map (D.int .i64) w_data_).length 1, []⟩, vi e_2] ?_
  obtain ⟨z_5, hz_5, h⟩ := bind_s h
  refine Rt (some 71) (.iaddrS 1) [] none [.ref [0] 0 0 (List.map (D.int .i64) w_data_).length 1, .i e_2] (.eref [0] 0 (0 + (e_2).toNat) 0) [] (cut_atR (e := (D.int .i64)) (l := w_data_) hz_5 rfl) <| Rt (some 72) (.load none) [] none [.eref [0] 0 (0 + (e_2).toNat) 0] (.i z_5) [] (cut_loadR (e := (D.int .i64)) (l := w_data_) (fz := false) (y := z_5) (by kernel_rfl) hz_5 (by kernel_rfl) (by kernel_rfl)) <| Rc 2 [⟨.ref [0] 0 0 (List.map (D.int .i64) w_data_).length 1, []⟩, vi e_1] ?_
  obtain ⟨z_6, hz_6, h⟩ := bind_s h
  refine Rt (some 75) (.iaddrS 1) [] none [.ref [0] 0 0 (List.map (D.int .i64) w_data_).length 1, .i e_1] (.eref [0] 0 (0 + (e_1).toNat) 0) [] (cut_atR (e := (D.int .i64)) (l := w_data_) hz_6 rfl) <| Rt (some 76) (.load none) [] none [.eref [0] 0 (0 + (e_1).toNat) 0] (.i z_6) [] (cut_loadR (e := (D.int .i64)) (l := w_data_) (fz := false) (y := z_6) (by kernel_rfl) hz_6 (by kernel_rfl) (by kernel_rfl)) ?_
  obtain ⟨z_7, hz_7, h⟩ := bind_s h
  refine Rt (some 77) (.iaddrS 1) [] none [.ref [0] 0 0 (List.map (D.int .i64) w_data_).length 1, .i e_1] (.eref [0] 0 (0 + (e_1).toNat) 0) [] (cut_atR (e := (D.int .i64)) (l := w_data_) hz_7 rfl) <| Rt none (.store 1) [] none [.eref [0] 0 (0 + (e_1).toNat) 0, .i z_5] (.tup []) [([0], some (.arr (List.map (D.int .i64) (List.set w_data_ (e_1).toNat z_5)) 0 false))] (cut_setR (e := (D.int .i64)) (l := w_data_) (y := z_7) (y' := z_5) (ds := [.int .i64 z_5]) (by kernel_rfl) hz_7 (by kernel_rfl) (by kernel_rfl) (by kernel_rfl) (by kernel_rfl)) ?_
  obtain ⟨z_8, hz_8, h⟩ := bind_s h
  refine Rt (some 78) (.iaddrS 1) [] none [.ref [0] 0 0 (List.map (D.int .i64) w_data_).length 1, .i e_2] (.eref [0] 0 (0 + (e_2).toNat) 0) [] (cut_atR (e := (D.int .i64)) (l := (List.set w_data_ (e_1).toNat z_5)) hz_8 (by simp only [List.length_map, List.length_set, cpy_length] : (List.map (D.int .i64) w_data_).length = (List.map (D.int .i64) (List.set w_data_ (e_1).toNat z_5)).length)) <| Rt none (.store 1) [] none [.eref [0] 0 (0 + (e_2).toNat) 0, .i z_6] (.tup []) [([0], some (.arr (List.map (D.int .i64) (List.set (List.set w_data_ (e_1).toNat z_5) (e_2).toNat z_6)) 0 false))] (cut_setR (e := (D.int .i64)) (l := (List.set w_data_ (e_1).toNat z_5)) (y := z_8) (y' := z_6) (ds := [.int .i64 z_6]) (by kernel_rfl) hz_8 (by kernel_rfl) (by kernel_rfl) (by kernel_rfl) (by kernel_rfl)) <| Rk <| Sq <| Ro <| Rc 3 [vi e_1, vi (IntKind.wrap .i64 (e_1 + 1)), vi (IntKind.wrap .i64 (e_1 + 1))] <| Rk <| Ro <| Rc 3 [vi e_2, vi (IntKind.wrap .i64 (e_2 - 1)), vi (IntKind.wrap .i64 (e_2 - 1))] <| Rd <| kB_nrm ?_
  obtain rfl := sj h
  exact ⟨rfl, (), (Canon.len (f := fun n => slices_partitionEqualOrdered_int_h8n data_ (List.set (List.set w_data_ (e_1).toNat z_5) (e_2).toNat z_6) a1 (IntKind.wrap .i64 (e_1 + 1)) (IntKind.wrap .i64 (e_2 - 1)) n) ((by simp only [List.length_map, List.length_set, cpy_length] : (List.map (D.int .i64) w_data_).length = (List.map (D.int .i64) (List.set (List.set w_data_ (e_1).toNat z_5) (e_2).toNat z_6)).length)).symm Cz)⟩
theorem slices_partitionEqualOrdered_int_ok (data_ : (List Int)) (a_ : Int) (b_ : Int) (pivot_ : Int) (r : (Int × (List Int))) (h : slices_partitionEqualOrdered_int data_ a_ b_ pivot_ = some r) : Runs L F167.body ⟨tmOf [.ref [0] 0 0 (List.map (D.int .i64) data_).length 1, .i a_, .i b_, .i pivot_] 0, updW (fun _ => none) [([0], some (.arr (List.map (D.int .i64) data_) 0 false))]⟩ (slices_partitionEqualOrdered_int_Q data_ a_ b_ pivot_ r) := by
 unfold slices_partitionEqualOrdered_int at h
 refine Sq <| Ro <| Rc 1 [vi 0] <| Rk <| Sq <| Ro <| Rc 6 [⟨.ref [0] 0 0 (List.map (D.int .i64) data_).length 1, []⟩, vi a_, ⟨.ref [0] 0 0 (List.map (D.int .i64) data_).length 1, []⟩, vi pivot_, ⟨.ref [0] 0 0 (List.map (D.int .i64) data_).length 1, []⟩, vi pivot_] ?_
 obtain ⟨z_1, hz_1, h⟩ := bind_s h
 refine Rt (some 17) (.iaddrS 1) [] none [.ref [0] 0 0 (List.map (D.int .i64) data_).length 1, .i pivot_] (.eref [0] 0 (0 + (pivot_).toNat) 0) [] (cut_atR (e := (D.int .i64)) (l := data_) hz_1 rfl) <| Rt (some 18) (.load none) [] none [.eref [0] 0 (0 + (pivot_).toNat) 0] (.i z_1) [] (cut_loadR (e := (D.int .i64)) (l := data_) (fz := false) (y := z_1) (by kernel_rfl) hz_1 (by kernel_rfl) (by kernel_rfl)) <| Rc 2 [⟨.ref [0] 0 0 (List.map (D.int .i64) data_).length 1, []⟩, vi a_] ?_
 obtain ⟨z_2, hz_2, h⟩ := bind_s h
 refine Rt (some 21) (.iaddrS 1) [] none [.ref [0] 0 0 (List.map (D.int .i64) data_).length 1, .i a_] (.eref [0] 0 (0 + (a_).toNat) 0) [] (cut_atR (e := (D.int .i64)) (l := data_) hz_2 rfl) <| Rt (some 22) (.load none) [] none [.eref [0] 0 (0 + (a_).toNat) 0] (.i z_2) [] (cut_loadR (e := (D.int .i64)) (l := data_) (fz := false) (y := z_2) (by kernel_rfl) hz_2 (by kernel_rfl) (by kernel_rfl)) ?_
 obtain ⟨z_3, hz_3, h⟩ := bind_s h
 refine Rt (some 23) (.iaddrS 1) [] none [.ref [0] 0 0 (List.map (D.int .i64) data_).length 1, .i a_] (.eref [0] 0 (0 + (a_).toNat) 0) [] (cut_atR (e := (D.int .i64)) (l := data_) hz_3 rfl) <| Rt none (.store 1) [] none [.eref [0] 0 (0 + (a_).toNat) 0, .i z_1] (.tup []) [([0], some (.arr (List.map (D.int .i64) (List.set data_ (a_).toNat z_1)) 0 false))] (cut_setR (e := (D.int .i64)) (l := data_) (y := z_3) (y' := z_1) (ds := [.int .i64 z_1]) (by kernel_rfl) hz_3 (by kernel_rfl) (by kernel_rfl) (by kernel_rfl) (by kernel_rfl)) ?_
 obtain ⟨z_4, hz_4, h⟩ := bind_s h
 refine Rt (some 24) (.iaddrS 1) [] none [.ref [0] 0 0 (List.map (D.int .i64) data_).length 1, .i pivot_] (.eref [0] 0 (0 + (pivot_).toNat) 0) [] (cut_atR (e := (D.int .i64)) (l := (List.set data_ (a_).toNat z_1)) hz_4 (by simp only [List.length_map, List.length_set, cpy_length] : (List.map (D.int .i64) data_).length = (List.map (D.int .i64) (List.set data_ (a_).toNat z_1)).length)) <| Rt none (.store 1) [] none [.eref [0] 0 (0 + (pivot_).toNat) 0, .i z_2] (.tup []) [([0], some (.arr (List.map (D.int .i64) (List.set (List.set data_ (a_).toNat z_1) (pivot_).toNat z_2)) 0 false))] (cut_setR (e := (D.int .i64)) (l := (List.set data_ (a_).toNat z_1)) (y := z_4) (y' := z_2) (ds := [.int .i64 z_2]) (by kernel_rfl) hz_4 (by kernel_rfl) (by kernel_rfl) (by kernel_rfl) (by kernel_rfl)) <| Rk <| Sq <| Ro <| Rc 6 [vi a_, vi (IntKind.wrap .i64 (a_ + 1)), vi b_, vi (IntKind.wrap .i64 (b_ - 1)), vi (IntKind.wrap .i64 (a_ + 1)), vi (IntKind.wrap .i64 (b_ - 1))] <| Rk <| Sq <| Runs.block ?_
 obtain ⟨e_1, he_1, h⟩ := bind_s h
 refine Runs.loop (fun x : ((List Int) × Int × Int) => slices_partitionEqualOrdered_int_l8 data_ x.1 a_ x.2.1 x.2.2) (fun (x : ((List Int) × Int × Int)) (g : Unit) => slices_partitionEqualOrdered_int_h8 data_ x.1 a_ x.2.1 x.2.2) (slices_partitionEqualOrdered_int_P8 data_ a_ b_ pivot_ data_ a_) (fun x g r hr => slices_partitionEqualOrdered_int_l8_ok data_ a_ b_ pivot_ data_ x.1 a_ x.2.1 x.2.2  r hr) () he_1 (Canon.len (f := fun n => slices_partitionEqualOrdered_int_h8n data_ (List.set (List.set data_ (a_).toNat z_1) (pivot_).toNat z_2) a_ (IntKind.wrap .i64 (a_ + 1)) (IntKind.wrap .i64 (b_ - 1)) n) ((by simp only [List.length_map, List.length_set, cpy_length] : (List.map (D.int .i64) data_).length = (List.map (D.int .i64) (List.set (List.set data_ (a_).toNat z_1) (pivot_).toNat z_2)).length)).symm Cz) ?_
 rintro ⟨o, s⟩ hp
 obtain ⟨ho, g_1, hk_1⟩ := hp
 have ho' : o = .exit 0 := ho
 subst ho'
 refine kB_hit <| kS_nrm <| Runs.canon _ hk_1 <| Sq <| Ro <| Rc 2 [vi e_1.2, vi e_1.2] <| Rk <| Runs.ret ?_
 try dsimp only at h
 by_cases hlw0 : e_1.1.length = data_.length
 case neg => rw [if_neg hlw0] at h; cases h
 rw [if_pos hlw0] at h
 obtain rfl := sj h
 exact ⟨Out.ret_ne, (fin_ofL (rs := [.i e_1.2]) (by kernel_rfl) (map_cons_ (lendP_of (fz := false) (es := List.map (D.int .i64) e_1.1) (by kernel_rfl) (by rw [List.length_map, List.length_map, hlw0] : (List.map (D.int .i64) data_).length = (List.map (D.int .i64) e_1.1).length) (by decide)) (map_cons_ rfl (map_cons_ rfl (map_cons_ rfl map_nil_)))) (by kernel_rfl) (outs_d outs_nil) (gives_cons (give_lref (fz := false) (es := List.map (D.int .i64) e_1.1) (by kernel_rfl) (by rw [List.length_map, List.length_map, hlw0] : (List.map (D.int .i64) data_).length = (List.map (D.int .i64) e_1.1).length) (by kernel_rfl) (by decide)) (gives_cons (give_same (by kernel_rfl)) (gives_cons (give_same (by kernel_rfl)) (gives_cons (give_same (by kernel_rfl)) gives_nil)))))⟩
theorem slices_partitionEqualOrdered_int_L (data_ : (List Int)) (a_ : Int) (b_ : Int) (pivot_ : Int) (r : (Int × (List Int))) (h : slices_partitionEqualOrdered_int data_ a_ b_ pivot_ = some r) : L 167 [.arr false 1 (List.map (D.int .i64) data_), .i a_, .i b_, .i pivot_] = some (.i r.1, [.arr false 1 (List.map (D.int .i64) r.2), .i a_, .i b_, .i pivot_]) := by
 obtain ⟨p, ⟨hne, hf⟩, hr⟩ := slices_partitionEqualOrdered_int_ok data_ a_ b_ pivot_ r h
 obtain ⟨k, hk⟩ := run_of (F := F167) (args := [.arr false 1 (List.map (D.int .i64) data_), .i a_, .i b_, .i pivot_]) (ap := [.ref [0] 0 0 (List.map (D.int .i64) data_).length 1, .i a_, .i b_, .i pivot_]) (bx0 := updW (fun _ => none) [([0], some (.arr (List.map (D.int .i64) data_) 0 false))]) rfl rfl (by kernel_rfl) ⟨p, ⟨hne, hf⟩, hr⟩
 exact lim_run (k := k) rfl hk
def slices_partitionOrdered_int_h8n (data_ : (List Int)) (w_data_ : (List Int)) (a1 : Int) (i10 : Int) (j11 : Int) (n_0 : Nat) : St := ⟨tab [(0, .ref [0] 0 0 n_0 1), (1, .i a1), (10, .i i10), (11, .i j11)], tabB [([0], some (.arr (List.map (D.int .i64) w_data_) 0 false))]⟩
def slices_partitionOrdered_int_h8 (data_ : (List Int)) (w_data_ : (List Int)) (a1 : Int) (i10 : Int) (j11 : Int) : St := slices_partitionOrdered_int_h8n data_ w_data_ a1 i10 j11 (List.map (D.int .i64) w_data_).length
def slices_partitionOrdered_int_h17 (data_ : (List Int)) (w_data_ : (List Int)) (a1 : Int) (i10 : Int) (j11 : Int) : St := ⟨tab [(0, .ref [0] 0 0 (List.map (D.int .i64) w_data_).length 1), (1, .i a1), (10, .i i10), (11, .i j11)], tabB [([0], some (.arr (List.map (D.int .i64) w_data_) 0 false))]⟩
def slices_partitionOrdered_int_h19 (data_ : (List Int)) (w_data_ : (List Int)) (a1 : Int) (i10 : Int) (j11 : Int) : St := ⟨tab [(0, .ref [0] 0 0 (List.map (D.int .i64) w_data_).length 1), (1, .i a1), (10, .i i10), (11, .i j11)], tabB [([0], some (.arr (List.map (D.int .i64) w_data_) 0 false))]⟩
def slices_partitionOrdered_int_h28 (data_ : (List Int)) (w_data_ : (List Int)) (a1 : Int) (i10 : Int) (j11 : Int) : St := ⟨tab [(0, .ref [0] 0 0 (List.map (D.int .i64) w_data_).length 1), (1, .i a1), (10, .i i10), (11, .i j11)], tabB [([0], some (.arr (List.map (D.int .i64) w_data_) 0 false))]⟩
def slices_partitionOrdered_int_h46n (data_ : (List Int)) (w_data_ : (List Int)) (a1 : Int) (i10 : Int) (j11 : Int) (n_0 : Nat) : St := ⟨tab [(0, .ref [0] 0 0 n_0 1), (1, .i a1), (10, .i i10), (11, .i j11)], tabB [([0], some (.arr (List.map (D.int .i64) w_data_) 0 false))]⟩
def slices_partitionOrdered_int_h46 (data_ : (List Int)) (w_data_ : (List Int)) (a1 : Int) (i10 : Int) (j11 : Int) : St := slices_partitionOrdered_int_h46n data_ w_data_ a1 i10 j11 (List.map (D.int .i64) w_data_).length
def slices_partitionOrdered_int_h50 (data_ : (List Int)) (w_data_ : (List Int)) (a1 : Int) (i10 : Int) (j11 : Int) : St := ⟨tab [(0, .ref [0] 0 0 (List.map (D.int .i64) w_data_).length 1), (1, .i a1), (10, .i i10), (11, .i j11)], tabB [([0], some (.arr (List.map (D.int .i64) w_data_) 0 false))]⟩
def slices_partitionOrdered_int_h59 (data_ : (List Int)) (w_data_ : (List Int)) (a1 : Int) (i10 : Int) (j11 : Int) : St := ⟨tab [(0, .ref [0] 0 0 (List.map (D.int .i64) w_data_).length 1), (1, .i a1), (10, .i i10), (11, .i j11)], tabB [([0], some (.arr (List.map (D.int .i64) w_data_) 0 false))]⟩
def slices_partitionOrdered_int_h61 (data_ : (List Int)) (w_data_ : (List Int)) (a1 : Int) (i10 : Int) (j11 : Int) : St := ⟨tab [(0, .ref [0] 0 0 (List.map (D.int .i64) w_data_).length 1), (1, .i a1), (10, .i i10), (11, .i j11)], tabB [([0], some (.arr (List.map (D.int .i64) w_data_) 0 false))]⟩
def slices_partitionOrdered_int_h70 (data_ : (List Int)) (w_data_ : (List Int)) (a1 : Int) (i10 : Int) (j11 : Int) : St := ⟨tab [(0, .ref [0] 0 0 (List.map (D.int .i64) w_data_).length 1), (1, .i a1), (10, .i i10), (11, .i j11)], tabB [([0], some (.arr (List.map (D.int .i64) w_data_) 0 false))]⟩
def slices_partitionOrdered_int_h81 (data_ : (List Int)) (w_data_ : (List Int)) (a1 : Int) (j11 : Int) : St := ⟨tab [(0, .ref [0] 0 0 (List.map (D.int .i64) w_data_).length 1), (1, .i a1), (11, .i j11)], tabB [([0], some (.arr (List.map (D.int .i64) w_data_) 0 false))]⟩
def slices_partitionOrdered_int_Q (data_ : (List Int)) (a_ : Int) (b_ : Int) (pivot_ : Int) (r : (Int × Bool × (List Int))) (p : Out × St) : Prop := (∀ i, p.1 ≠ .exit i) ∧ finF F168 [.ref [0] 0 0 (List.map (D.int .i64) data_).length 1, .i a_, .i b_, .i pivot_] p.2 = some (.tup [.i r.1, .b r.2.1], [.arr false 1 (List.map (D.int .i64) r.2.2), .i a_, .i b_, .i pivot_])
def slices_partitionOrdered_int_P8 (data_ : (List Int)) (a_ : Int) (b_ : Int) (pivot_ : Int) (data_ : (List Int)) (w_data_ : (List Int)) (a1 : Int) (j11 : Int) (e : Int) (p : Out × St) : Prop := p.1 = .exit 0 ∧ ∃ g : Unit, Canon [] [0, 1, 10, 11] [[0]] p.2 (slices_partitionOrdered_int_h17 data_ w_data_ a1 e j11)
def slices_partitionOrdered_int_P19 (data_ : (List Int)) (a_ : Int) (b_ : Int) (pivot_ : Int) (data_ : (List Int)) (w_data_ : (List Int)) (a1 : Int) (i10 : Int) (e : Int) (p : Out × St) : Prop := p.1 = .exit 2 ∧ ∃ g : Unit, Canon [] [0, 1, 10, 11] [[0]] p.2 (slices_partitionOrdered_int_h28 data_ w_data_ a1 i10 e)
def slices_partitionOrdered_int_P50 (data_ : (List Int)) (a_ : Int) (b_ : Int) (pivot_ : Int) (data_ : (List Int)) (w_data_ : (List Int)) (a1 : Int) (j11 : Int) (e : Int) (p : Out × St) : Prop := p.1 = .exit 6 ∧ ∃ g : Unit, Canon [] [0, 1, 10, 11] [[0]] p.2 (slices_partitionOrdered_int_h59 data_ w_data_ a1 e j11)
def slices_partitionOrdered_int_P61 (data_ : (List Int)) (a_ : Int) (b_ : Int) (pivot_ : Int) (data_ : (List Int)) (w_data_ : (List Int)) (a1 : Int) (i10 : Int) (e : Int) (p : Out × St) : Prop := p.1 = .exit 8 ∧ ∃ g : Unit, Canon [] [0, 1, 10, 11] [[0]] p.2 (slices_partitionOrdered_int_h70 data_ w_data_ a1 i10 e)
def slices_partitionOrdered_int_P46 (data_ : (List Int)) (a_ : Int) (b_ : Int) (pivot_ : Int) (data_ : (List Int)) (a1 : Int) (e : ((List Int) × Int)) (p : Out × St) : Prop := p.1 = .exit 4 ∧ ∃ g : Unit, Canon [] [0, 1, 11] [[0]] p.2 (slices_partitionOrdered_int_h81 data_ e.1 a1 e.2)
theorem slices_partitionOrdered_int_l8_ok (data_ : (List Int)) (a_ : Int) (b_ : Int) (pivot_ : Int) (data_ : (List Int)) (w_data_ : (List Int)) (a1 : Int) (i10 : Int) (j11 : Int) (r : (Lp Int Int)) (h : slices_partitionOrdered_int_l8 data_ w_data_ a1 i10 j11 = some r) : Runs L F168l8 (slices_partitionOrdered_int_h8 data_ w_data_ a1 i10 j11) (LQ [] [0, 1, 10, 11] [[0]] (fun (x : Int) (g : Unit) => slices_partitionOrdered_int_h8 data_ w_data_ a1 x j11) (slices_partitionOrdered_int_P8 data_ a_ b_ pivot_ data_ w_data_ a1 j11) r) := by
 unfold slices_partitionOrdered_int_l8 at h
 refine Sq <| Sq <| Ro <| Rc 4 [vi i10, vi j11, vb (decide (i10 ≤ j11)), vb (decide (i10 ≤ j11))] ?_
 cases hb_1 : ((decide (i10 ≤ j11)) : Bool) with
 | true =>
  replace h := ite_t hb_1 h
  refine Rc 2 [⟨.ref [0] 0 0 (List.map (D.int .i64) w_data_).length 1, []⟩, vi i10] ?_
  obtain ⟨z_5, hz_5, h⟩ := bind_s h
  refine Rt (some 36) (.iaddrS 1) [] none [.ref [0] 0 0 (List.map (D.int .i64) w_data_).length 1, .i i10] (.eref [0] 0 (0 + (i10).toNat) 0) [] (cut_atR (e := (D.int .i64)) (l := w_data_) hz_5 rfl) <| Rt (some 37) (.load none) [] none [.eref [0] 0 (0 + (i10).toNat) 0] (.i z_5) [] (cut_loadR (e := (D.int .i64)) (l := w_data_) (fz := false) (y := z_5) (by kernel_rfl) hz_5 (by kernel_rfl) (by kernel_rfl)) <| Rc 2 [⟨.ref [0] 0 0 (List.map (D.int .i64) w_data_).length 1, []⟩, vi a1] ?_
  obtain ⟨z_6, hz_6, h⟩ := bind_s h
  refine Rt (some 40) (.iaddrS 1) [] none [.ref [0] 0 0 (List.map (D.int .i64) w_data_).length 1, .i a1] (.eref [0] 0 (0 + (a1).toNat) 0) [] (cut_atR (e := (D.int .i64)) (l := w_data_) hz_6 rfl) <| Rt (some 41) (.load none) [] none [.eref [0] 0 (0 + (a1).toNat) 0] (.i z_6) [] (cut_loadR (e := (D.int .i64)) (l := w_data_) (fz := false) (y := z_6) (by kernel_rfl) hz_6 (by kernel_rfl) (by kernel_rfl)) ?_
  obtain ⟨r_1, hr_1, h⟩ := bind_s h
  have hc_1 := cmp_Less_int_L z_5 z_6 r_1 hr_1
  refine Rt (some 42) (.callf 166) [] none [.i z_5, .i z_6] (.b r_1) [] (cc hc_1) <| Rc 1 [vb r_1] <| Rk ?_
  cases hb_2 : (r_1 : Bool) with
  | true =>
   replace h := ite_t hb_2 h
   refine Ct <| Runs.skip <| kS_nrm <| Runs.block <| Ro <| Rc 3 [vi i10, vi (IntKind.wrap .i64 (i10 + 1)), vi (IntKind.wrap .i64 (i10 + 1))] <| Rd <| kB_nrm ?_
   obtain rfl := sj h
   exact ⟨rfl, (), Cz⟩
  | false =>
   replace h := ite_f hb_2 h
   refine Cf <| Runs.exit <| kS_exit ?_
   obtain rfl := sj h
   exact ⟨nofun, rfl, (), Cz⟩
 | false =>
  replace h := ite_f hb_1 h
  refine Rc 10 [vn, vn, vn, vn, vn, vn, vn, vn, vn, vb false] <| Rk <| Cf <| Runs.exit <| kS_exit ?_
  obtain rfl := sj h
  exact ⟨nofun, rfl, (), Cz⟩
theorem slices_partitionOrdered_int_l19_ok (data_ : (List Int)) (a_ : Int) (b_ : Int) (pivot_ : Int) (data_ : (List Int)) (w_data_ : (List Int)) (a1 : Int) (i10 : Int) (j11 : Int) (r : (Lp Int Int)) (h : slices_partitionOrdered_int_l19 data_ w_data_ a1 i10 j11 = some r) : Runs L F168l19 (slices_partitionOrdered_int_h19 data_ w_data_ a1 i10 j11) (LQ [] [0, 1, 10, 11] [[0]] (fun (x : Int) (g : Unit) => slices_partitionOrdered_int_h19 data_ w_data_ a1 i10 x) (slices_partitionOrdered_int_P19 data_ a_ b_ pivot_ data_ w_data_ a1 i10) r) := by
 unfold slices_partitionOrdered_int_l19 at h
 refine Sq <| Sq <| Ro <| Rc 4 [vi i10, vi j11, vb (decide (i10 ≤ j11)), vb (decide (i10 ≤ j11))] ?_
 cases hb_1 : ((decide (i10 ≤ j11)) : Bool) with
 | true =>
  replace h := ite_t hb_1 h
  refine Rc 2 [⟨.ref [0] 0 0 (List.map (D.int .i64) w_data_).length 1, []⟩, vi j11] ?_
  obtain ⟨z_5, hz_5, h⟩ := bind_s h
  refine Rt (some 52) (.iaddrS 1) [] none [.ref [0] 0 0 (List.map (D.int .i64) w_data_).length 1, .i j11] (.eref [0] 0 (0 + (j11).toNat) 0) [] (cut_atR (e := (D.int .i64)) (l := w_data_) hz_5 rfl) <| Rt (some 53) (.load none) [] none [.eref [0] 0 (0 + (j11).toNat) 0] (.i z_5) [] (cut_loadR (e := (D.int .i64)) (l := w_data_) (fz := false) (y := z_5) (by kernel_rfl) hz_5 (by kernel_rfl) (by kernel_rfl)) <| Rc 2 [⟨.ref [0] 0 0 (List.map (D.int .i64) w_data_).length 1, []⟩, vi a1] ?_
  obtain ⟨z_6, hz_6, h⟩ := bind_s h
  refine Rt (some 56) (.iaddrS 1) [] none [.ref [0] 0 0 (List.map (D.int .i64) w_data_).length 1, .i a1] (.eref [0] 0 (0 + (a1).toNat) 0) [] (cut_atR (e := (D.int .i64)) (l := w_data_) hz_6 rfl) <| Rt (some 57) (.load none) [] none [.eref [0] 0 (0 + (a1).toNat) 0] (.i z_6) [] (cut_loadR (e := (D.int .i64)) (l := w_data_) (fz := false) (y := z_6) (by kernel_rfl) hz_6 (by kernel_rfl) (by kernel_rfl)) ?_
  obtain ⟨r_1, hr_1, h⟩ := bind_s h
  have hc_1 := cmp_Less_int_L z_5 z_6 r_1 hr_1
  refine Rt (some 58) (.callf 166) [] none [.i z_5, .i z_6] (.b r_1) [] (cc hc_1) <| Rc 2 [vb (!r_1), vb (!r_1)] <| Rk ?_
  cases hb_2 : ((!r_1) : Bool) with
  | true =>
   replace h := ite_t hb_2 h
   refine Ct <| Runs.skip <| kS_nrm <| Runs.block <| Ro <| Rc 3 [vi j11, vi (IntKind.wrap .i64 (j11 - 1)), vi (IntKind.wrap .i64 (j11 - 1))] <| Rd <| kB_nrm ?_
   obtain rfl := sj h
   exact ⟨rfl, (), Cz⟩
  | false =>
   replace h := ite_f hb_2 h
   refine Cf <| Runs.exit <| kS_exit ?_
   obtain rfl := sj h
   exact ⟨nofun, rfl, (), Cz⟩
 | false =>
  replace h := ite_f hb_1 h
  refine Rc 11 [vn, vn, vn, vn, vn, vn, vn, vn, vn, vn, vb false] <| Rk <| Cf <| Runs.exit <| kS_exit ?_
  obtain rfl := sj h
  exact ⟨nofun, rfl, (), Cz⟩
theorem slices_partitionOrdered_int_l50_ok (data_ : (List Int)) (a_ : Int) (b_ : Int) (pivot_ : Int) (data_ : (List Int)) (w_data_ : (List Int)) (a1 : Int) (i10 : Int) (j11 : Int) (r : (Lp Int Int)) (h : slices_partitionOrdered_int_l50 data_ w_data_ a1 i10 j11 = some r) : Runs L F168l50 (slices_partitionOrdered_int_h50 data_ w_data_ a1 i10 j11) (LQ [] [0, 1, 10, 11] [[0]] (fun (x : Int) (g : Unit) => slices_partitionOrdered_int_h50 data_ w_data_ a1 x j11) (slices_partitionOrdered_int_P50 data_ a_ b_ pivot_ data_ w_data_ a1 j11) r) := by
 unfold slices_partitionOrdered_int_l50 at h
 refine Sq <| Sq <| Ro <| Rc 4 [vi i10, vi j11, vb (decide (i10 ≤ j11)), vb (decide (i10 ≤ j11))] ?_
 cases hb_2 : ((decide (i10 ≤ j11)) : Bool) with
 | true =>
  replace h := ite_t hb_2 h
  refine Rc 2 [⟨.ref [0] 0 0 (List.map (D.int .i64) w_data_).length 1, []⟩, vi i10] ?_
  obtain ⟨z_13, hz_13, h⟩ := bind_s h
  refine Rt (some 105) (.iaddrS 1) [] none [.ref [0] 0 0 (List.map (D.int .i64) w_data_).length 1, .i i10] (.eref [0] 0 (0 + (i10).toNat) 0) [] (cut_atR (e := (D.int .i64)) (l := w_data_) hz_13 rfl) <| Rt (some 106) (.load none) [] none [.eref [0] 0 (0 + (i10).toNat) 0] (.i z_13) [] (cut_loadR (e := (D.int .i64)) (l := w_data_) (fz := false) (y := z_13) (by kernel_rfl) hz_13 (by kernel_rfl) (by kernel_rfl)) <| Rc 2 [⟨.ref [0] 0 0 (List.map (D.int .i64) w_data_).length 1, []⟩, vi a1] ?_
  obtain ⟨z_14, hz_14, h⟩ := bind_s h
  refine Rt (some 109) (.iaddrS 1) [] none [.ref [0] 0 0 (List.map (D.int .i64) w_data_).length 1, .i a1] (.eref [0] 0 (0 + (a1).toNat) 0) [] (cut_atR (e := (D.int .i64)) (l := w_data_) hz_14 rfl) <| Rt (some 110) (.load none) [] none [.eref [0] 0 (0 + (a1).toNat) 0] (.i z_14) [] (cut_loadR (e := (D.int .i64)) (l := w_data_) (fz := false) (y := z_14) (by kernel_rfl) hz_14 (by kernel_rfl) (by kernel_rfl)) ?_
  obtain ⟨r_1, hr_1, h⟩ := bind_s h
  have hc_1 := cmp_Less_int_L z_13 z_14 r_1 hr_1
  refine Rt (some 111) (.callf 166) [] none [.i z_13, .i z_14] (.b r_1) [] (cc hc_1) <| Rc 1 [vb r_1] <| Rk ?_
  cases hb_3 : (r_1 : Bool) with
  | true =>
   replace h := ite_t hb_3 h
   refine Ct <| Runs.skip <| kS_nrm <| Runs.block <| Ro <| Rc 3 [vi i10, vi (IntKind.wrap .i64 (i10 + 1)), vi (IntKind.wrap .i64 (i10 + 1))] <| Rd <| kB_nrm ?_
   obtain rfl := sj h
   exact ⟨rfl, (), Cz⟩
  | false =>
   replace h := ite_f hb_3 h
   refine Cf <| Runs.exit <| kS_exit ?_
   obtain rfl := sj h
   exact ⟨nofun, rfl, (), Cz⟩
 | false =>
  replace h := ite_f hb_2 h
  refine Rc 10 [vn, vn, vn, vn, vn, vn, vn, vn, vn, vb false] <| Rk <| Cf <| Runs.exit <| kS_exit ?_
  obtain rfl := sj h
  exact ⟨nofun, rfl, (), Cz⟩
theorem slices_partitionOrdered_int_l61_ok (data_ : (List Int)) (a_ : Int) (b_ : Int) (pivot_ : Int) (data_ : (List Int)) (w_data_ : (List Int)) (a1 : Int) (i10 : Int) (j11 : Int) (r : (Lp Int Int)) (h : slices_partitionOrdered_int_l61 data_ w_data_ a1 i10 j11 = some r) : Runs L F168l61 (slices_partitionOrdered_int_h61 data_ w_data_ a1 i10 j11) (LQ [] [0, 1, 10, 11] [[0]] (fun (x : Int) (g : Unit) => slices_partitionOrdered_int_h61 data_ w_data_ a1 i10 x) (slices_partitionOrdered_int_P61 data_ a_ b_ pivot_ data_ w_data_ a1 i10) r) := by
 unfold slices_partitionOrdered_int_l61 at h
 refine Sq <| Sq <| Ro <| Rc 4 [vi i10, vi j11, vb (decide (i10 ≤ j11)), vb (decide (i10 ≤ j11))] ?_
 cases hb_2 : ((decide (i10 ≤ j11)) : Bool) with
 | true =>
  replace h := ite_t hb_2 h
  refine Rc 2 [⟨.ref [0] 0 0 (List.map (D.int .i64) w_data_).length 1, []⟩, vi j11] ?_
  obtain ⟨z_13, hz_13, h⟩ := bind_s h
  refine Rt (some 121) (.iaddrS 1) [] none [.ref [0] 0 0 (List.map (D.int .i64) w_data_).length 1, .i j11] (.eref [0] 0 (0 + (j11).toNat) 0) [] (cut_atR (e := (D.int .i64)) (l := w_data_) hz_13 rfl) <| Rt (some 122) (.load none) [] none [.eref [0] 0 (0 + (j11).toNat) 0] (.i z_13) [] (cut_loadR (e := (D.int .i64)) (l := w_data_) (fz := false) (y := z_13) (by kernel_rfl) hz_13 (by kernel_rfl) (by kernel_rfl)) <| Rc 2 [⟨.ref [0] 0 0 (List.map (D.int .i64) w_data_).length 1, []⟩, vi a1] ?_
  obtain ⟨z_14, hz_14, h⟩ := bind_s h
  refine Rt (some 125) (.iaddrS 1) [] none [.ref [0] 0 0 (List.map (D.int .i64) w_data_).length 1, .i a1] (.eref [0] 0 (0 + (a1).toNat) 0) [] (cut_atR (e := (D.int .i64)) (l := w_data_) hz_14 rfl) <| Rt (some 126) (.load none) [] none [.eref [0] 0 (0 + (a1).toNat) 0] (.i z_14) [] (cut_loadR (e := (D.int .i64)) (l := w_data_) (fz := false) (y := z_14) (by kernel_rfl) hz_14 (by kernel_rfl) (by kernel_rfl)) ?_
  obtain ⟨r_1, hr_1, h⟩ := bind_s h
  have hc_1 := cmp_Less_int_L z_13 z_14 r_1 hr_1
  refine Rt (some 127) (.callf 166) [] none [.i z_13, .i z_14] (.b r_1) [] (cc hc_1) <| Rc 2 [vb (!r_1), vb (!r_1)] <| Rk ?_
  cases hb_3 : ((!r_1) : Bool) with
  | true =>
   replace h := ite_t hb_3 h
   refine Ct <| Runs.skip <| kS_nrm <| Runs.block <| Ro <| Rc 3 [vi j11, vi (IntKind.wrap .i64 (j11 - 1)), vi (IntKind.wrap .i64 (j11 - 1))] <| Rd <| kB_nrm ?_
   obtain rfl := sj h
   exact ⟨rfl, (), Cz⟩
  | false =>
   replace h := ite_f hb_3 h
   refine Cf <| Runs.exit <| kS_exit ?_
   obtain rfl := sj h
   exact ⟨nofun, rfl, (), Cz⟩
 | false =>
  replace h := ite_f hb_2 h
  refine Rc 11 [vn, vn, vn, vn, vn, vn, vn, vn, vn, vn, vb false] <| Rk <| Cf <| Runs.exit <| kS_exit ?_
  obtain rfl := sj h
  exact ⟨nofun, rfl, (), Cz⟩
theorem slices_partitionOrdered_int_l46_ok (data_ : (List Int)) (a_ : Int) (b_ : Int) (pivot_ : Int) (data_ : (List Int)) (w_data_ : (List Int)) (a1 : Int) (i10 : Int) (j11 : Int) (r : (Lp ((List Int) × Int × Int) ((List Int) × Int))) (h : slices_partitionOrdered_int_l46 data_ w_data_ a1 i10 j11 = some r) : Runs L F168l46 (slices_partitionOrdered_int_h46 data_ w_data_ a1 i10 j11) (LQ [] [0, 1, 10, 11] [[0]] (fun (x : ((List Int) × Int × Int)) (g : Unit) => slices_partitionOrdered_int_h46 data_ x.1 a1 x.2.1 x.2.2) (slices_partitionOrdered_int_P46 data_ a_ b_ pivot_ data_ a1) r) := by
 unfold slices_partitionOrdered_int_l46 at h
 refine Runs.block <| Sq <| Runs.block ?_
 obtain ⟨e_3, he_3, h⟩ := bind_s h
 refine Runs.loop (fun x : Int => slices_partitionOrdered_int_l50 data_ w_data_ a1 x j11) (fun (x : Int) (g : Unit) => slices_partitionOrdered_int_h50 data_ w_data_ a1 x j11) (slices_partitionOrdered_int_P50 data_ a_ b_ pivot_ data_ w_data_ a1 j11) (fun x g r hr => slices_partitionOrdered_int_l50_ok data_ a_ b_ pivot_ data_ w_data_ a1 x j11  r hr) () he_3 Cz ?_
 rintro ⟨o, s⟩ hp
 obtain ⟨ho, g_3, hk_3⟩ := hp
 have ho' : o = .exit 6 := ho
 subst ho'
 refine kB_hit <| kS_nrm <| Runs.canon _ hk_3 <| Sq <| Runs.block ?_
 obtain ⟨e_4, he_4, h⟩ := bind_s h
 refine Runs.loop (fun x : Int => slices_partitionOrdered_int_l61 data_ w_data_ a1 e_3 x) (fun (x : Int) (g : Unit) => slices_partitionOrdered_int_h61 data_ w_data_ a1 e_3 x) (slices_partitionOrdered_int_P61 data_ a_ b_ pivot_ data_ w_data_ a1 e_3) (fun x g r hr => slices_partitionOrdered_int_l61_ok data_ a_ b_ pivot_ data_ w_data_ a1 e_3 x  r hr) () he_4 Cz ?_
 rintro ⟨o, s⟩ hp
 obtain ⟨ho, g_4, hk_4⟩ := hp
 have ho' : o = .exit 8 := ho
 subst ho'
 refine kB_hit <| kS_nrm <| Runs.canon _ hk_4 <| Sq <| Sq <| Ro <| Rc 3 [vi e_3, vi e_4, vb (decide (e_3 > e_4))] <| Rk ?_
 cases hb_2 : ((decide (e_3 > e_4)) : Bool) with
 | true =>
  replace h := ite_t hb_2 h
  refine Ct <| Runs.exit <| kS_exit <| kB_pass (by decide) ?_
  obtain rfl := sj h
  exact ⟨nofun, rfl, (), Cz⟩
 | false =>
  replace h := ite_f hb_2 h
  refine Cf <| Runs.skip <| kS_nrm <| Sq <| Ro <| Rc 6 [⟨.ref [0] 0 0 (List.map (D.int .i64) w_data_).length 1, []⟩, vi e_3, ⟨.ref [0] 0 0 (List.map (D.int .i64) w_data_).length 1, []⟩, vi e_4, ⟨.ref [0] 0 0 (List.map (D.int .i64) w_data_).length 1, []⟩, vi e_4] ?_
  obtain ⟨z_13, hz_13, h⟩ := bind_s h
  refine Rt (some 141) (.iaddrS 1) [] none [.ref [0] 0 0 (List.map (D.int .i64) w_data_).length 1, .i e_4] (.eref [0] 0 (0 + (e_4).toNat) 0) [] (cut_atR (e := (D.int .i64)) (l := w_data_) hz_13 rfl) <| Rt (some 142) (.load none) [] none [.eref [0] 0 (0 + (e_4).toNat) 0] (.i z_13) [] (cut_loadR (e := (D.int .i64)) (l := w_data_) (fz := false) (y := z_13) (by kernel_rfl) hz_13 (by kernel_rfl) (by kernel_rfl)) <| Rc 2 [⟨.ref [0] 0 0 (List.map (D.int .i64) w_data_).length 1, []⟩, vi e_3] ?_
  obtain ⟨z_14, hz_14, h⟩ := bind_s h
  refine Rt (some 145) (.iaddrS 1) [] none [.ref [0] 0 0 (List.map (D.int .i64) w_data_).length 1, .i e_3] (.eref [0] 0 (0 + (e_3).toNat) 0) [] (cut_atR (e := (D.int .i64)) (l := w_data_) hz_14 rfl) <| Rt (some 146) (.load none) [] none [.eref [0] 0 (0 + (e_3).toNat) 0] (.i z_14) [] (cut_loadR (e := (D.int .i64)) (l := w_data_) (fz := false) (y := z_14) (by kernel_rfl) hz_14 (by kernel_rfl) (by kernel_rfl)) ?_
  obtain ⟨z_15, hz_15, h⟩ := bind_s h
  refine Rt (some 147) (.iaddrS 1) [] none [.ref [0] 0 0 (List.map (D.int .i64) w_data_).length 1, .i e_3] (.eref [0] 0 (0 + (e_3).toNat) 0) [] (cut_atR (e := (D.int .i64)) (l := w_data_) hz_15 rfl) <| Rt none (.store 1) [] none [.eref [0] 0 (0 + (e_3).toNat) 0, .i z_13] (.tup []) [([0], some (.arr (List.map (D.int .i64) (List.set w_data_ (e_3).toNat z_13)) 0 false))] (cut_setR (e := (D.int .i64)) (l := w_data_) (y := z_15) (y' := z_13) (ds := [.int .i64 z_13]) (by kernel_rfl) hz_15 (by kernel_rfl) (by kernel_rfl) (by kernel_rfl) (by kernel_rfl)) ?_
  obtain ⟨z_16, hz_16, h⟩ := bind_s h
  refine Rt (some 148) (.iaddrS 1) [] none [.ref [0] 0 0 (List.map (D.int .i64) w_data_).length 1, .i e_4] (.eref [0] 0 (0 + (e_4).toNat) 0) [] (cut_atR (e := (D.int .i64)) (l := (List.set w_data_ (e_3).toNat z_13)) hz_16 (by simp only [List.length_map, List.length_set, cpy_length] : (List.map (D.int .i64) w_data_).length = (List.map (D.int .i64) (List.set w_data_ (e_3).toNat z_13)).length)) <| Rt none (.store 1) [] none [.eref [0] 0 (0 + (e_4).toNat) 0, .i z_14] (.tup []) [([0], some (.arr (List.map (D.int .i64) (List.set (List.set w_data_ (e_3).toNat z_13) (e_4).toNat z_14)) 0 false))] (cut_setR (e := (D.int .i64)) (l := (List.set w_data_ (e_3).toNat z_13)) (y := z_16) (y' := z_14) (ds := [.int .i64 z_14]) (by kernel_rfl) hz_16 (by kernel_rfl) (by kernel_rfl) (by kernel_rfl) (by kernel_rfl)) <| Rk <| Sq <| Ro <| Rc 3 [vi e_3, vi (IntKind.wrap .i64 (e_3 + 1)), vi (IntKind.wrap .i64 (e_3 + 1))] <| Rk <| Ro <| Rc 3 [vi e_4, vi (IntKind.wrap .i64 (e_4 - 1)), vi (IntKind.wrap .i64 (e_4 - 1))] <| Rd <| kB_nrm ?_
  obtain rfl := sj h
  exact ⟨rfl, (), (Canon.len (f := fun n => slices_partitionOrdered_int_h46n data_ (List.set (List.set w_data_ (e_3).toNat z_13) (e_4).toNat z_14) a1 (IntKind.wrap .i64 (e_3 + 1)) (IntKind.wrap .i64 (e_4 - 1)) n) ((by simp only [List.length_map, List.length_set, cpy_length] : (List.map (D.int .i64) w_data_).length = (List.map (D.int .i64) (List.set (List.set w_data_ (e_3).toNat z_13) (e_4).toNat z_14)).length)).symm Cz)⟩
end Go.Es.Mza
