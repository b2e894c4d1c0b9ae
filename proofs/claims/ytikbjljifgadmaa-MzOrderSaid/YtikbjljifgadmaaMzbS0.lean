/- The interpreter answers as plain Lean does: part 1. No condition. -/
import Derived.Test.YtikbjljifgadmaaMzbF
import Derived.Test.YtikbjljifgadmaaMzbP
import Derived.KernelRfl
set_option linter.unusedVariables false
set_option linter.unusedSimpArgs false
set_option maxRecDepth 100000
set_option maxHeartbeats 4000000
namespace Go.Es.Mzb
theorem hansomlaw44_awake_L (r : Bool) (h : hansomlaw44_awake = some r) : L 33 [] = some (.d (.bool r), []) := by
  cases h
  exact (lim_iff (F := tab1)).2 ⟨100, by kernel_rfl⟩
def hansomref44_Near_h2 (x1 : Image) (b_901_2 : (List Int)) (y2_2 : Int) (y2_3 : Int) (y2_4 : Int) (y2_5 : Int) (y2_6 : Int) (v_901_2 : Nat) : St := ⟨tab [(1, .ptr [1] 0 0), (2, .ptr [2] 0 0)], tabB [([1], some (.cells [.d (.sl (mY x1.Bytes)), .d (.sl (List.map (D.int .i64) x1.Relocs)), .w x1.CS, .w x1.IP, .w x1.SS, .w x1.SP, .i x1.Min] 0)), ([2], some (.cells [.nils, .ref [901, 2] v_901_2 0 (List.map (D.int .i64) b_901_2).length 1, .w y2_2, .w y2_3, .w y2_4, .w y2_5, .i y2_6] 0)), ([901, 2], some (.arr (List.map (D.int .i64) b_901_2) v_901_2 false))]⟩
def hansomref44_Near_h8 (x1 : Image) (y2 : Image) (v_6 : Nat) (v_901_2 : Nat) : St := ⟨tab [(1, .ptr [1] 0 0), (2, .ptr [2] 0 0)], tabB [([1], some (.cells [.d (.sl (mY x1.Bytes)), .d (.sl (List.map (D.int .i64) x1.Relocs)), .w x1.CS, .w x1.IP, .w x1.SS, .w x1.SP, .i x1.Min] 0)), ([2], some (.cells [.ref [6] v_6 0 (mY y2.Bytes).length 1, .ref [901, 2] v_901_2 0 (List.map (D.int .i64) y2.Relocs).length 1, .w y2.CS, .w y2.IP, .w y2.SS, .w y2.SP, .i y2.Min] 0)), ([6], some (.arr (mY y2.Bytes) v_6 false)), ([901, 2], some (.arr (List.map (D.int .i64) y2.Relocs) v_901_2 false))]⟩
def hansomref44_Near_h14 (x1 : Image) (y2 : Image) (at3 : Int) (i4 : Int) (v_6 : Nat) (v_901_2 : Nat) : St := ⟨tab [(1, .ptr [1] 0 0), (2, .ptr [2] 0 0), (3, .i at3), (4, .i i4)], tabB [([1], some (.cells [.d (.sl (mY x1.Bytes)), .d (.sl (List.map (D.int .i64) x1.Relocs)), .w x1.CS, .w x1.IP, .w x1.SS, .w x1.SP, .i x1.Min] 0)), ([2], some (.cells [.ref [6] v_6 0 (mY y2.Bytes).length 1, .ref [901, 2] v_901_2 0 (List.map (D.int .i64) y2.Relocs).length 1, .w y2.CS, .w y2.IP, .w y2.SS, .w y2.SP, .i y2.Min] 0)), ([6], some (.arr (mY y2.Bytes) v_6 false)), ([901, 2], some (.arr (List.map (D.int .i64) y2.Relocs) v_901_2 false))]⟩
def hansomref44_Near_h35 (x1 : Image) (y2 : Image) (v_6 : Nat) (v_901_2 : Nat) : St := ⟨tab [(1, .ptr [1] 0 0), (2, .ptr [2] 0 0)], tabB [([1], some (.cells [.d (.sl (mY x1.Bytes)), .d (.sl (List.map (D.int .i64) x1.Relocs)), .w x1.CS, .w x1.IP, .w x1.SS, .w x1.SP, .i x1.Min] 0)), ([2], some (.cells [.ref [6] v_6 0 (mY y2.Bytes).length 1, .ref [901, 2] v_901_2 0 (List.map (D.int .i64) y2.Relocs).length 1, .w y2.CS, .w y2.IP, .w y2.SS, .w y2.SP, .i y2.Min] 0)), ([6], some (.arr (mY y2.Bytes) v_6 false)), ([901, 2], some (.arr (List.map (D.int .i64) y2.Relocs) v_901_2 false))]⟩
def hansomref44_Near_Q (x_ : Image) (r : Image) (p : Out × St) : Prop := (∀ i, p.1 ≠ .exit i) ∧ finF F29 [.d (Image.d x_)] p.2 = some (.d (Image.d r), [.d (Image.d x_)])
def hansomref44_Near_P14 (x_ : Image) (x1 : Image) (e : Image) (p : Out × St) : Prop := p.1 = .exit 0 ∧ ∃ g : (Nat × Nat), Canon [] [1, 2] [[1], [2], [6], [901, 2]] p.2 (hansomref44_Near_h35 x1 e g.1 g.2)
theorem hansomref44_Near_l14_ok (x_ : Image) (x1 : Image) (y2 : Image) (at3 : Int) (i4 : Int) (v_6 : Nat) (v_901_2 : Nat) (r : (Lp (Image × Int × Int) Image)) (h : hansomref44_Near_l14 x1 y2 at3 i4 = some r) : Runs L F29l14 (hansomref44_Near_h14 x1 y2 at3 i4 v_6 v_901_2) (LQ [] [1, 2, 3, 4] [[1], [2], [6], [901, 2]] (fun (x : (Image × Int × Int)) (g : (Nat × Nat)) => hansomref44_Near_h14 x1 x.1 x.2.1 x.2.2 g.1 g.2) (hansomref44_Near_P14 x_ x1) r) := by
 unfold hansomref44_Near_l14 at h
 refine Sq <| Sq <| Ro <| Rc 3 [vi i4, vp [1] 0 1, ⟨.d (.sl (List.map (D.int .i64) x1.Relocs)), []⟩] <| Rt (some 20) .lenL [] none [.d (.sl (List.map (D.int .i64) x1.Relocs))] (.i (x1.Relocs.length : Int)) [] (cut_len _) <| Rc 2 [vb (decide (i4 < (x1.Relocs.length : Int))), vb (decide (i4 < (x1.Relocs.length : Int)))] ?_
 cases hb_1 : ((decide (i4 < (x1.Relocs.length : Int))) : Bool) with
 | true =>
  replace h := ite_t hb_1 h
  refine Rc 3 [vi i4, vb (decide (i4 < 6)), vb (decide (i4 < 6))] <| Rk ?_
  cases hb_2 : ((decide (i4 < 6)) : Bool) with
  | true =>
   replace h := ite_t hb_2 h
   refine Ct <| Runs.skip <| kS_nrm <| Sq <| Runs.block <| Sq <| Ro <| Rc 4 [vi at3, vp [1] 0 1, ⟨.d (.sl (List.map (D.int .i64) x1.Relocs)), []⟩, vi i4] ?_
   obtain ⟨z_3, hz_3, h⟩ := bind_s h
   refine Rt (some 32) (.iaddrS 1) [] none [.d (.sl (List.map (D.int .i64) x1.Relocs)), .i i4] (.elt (.int .i64 z_3) 0) [] (cut_at hz_3 (fun _ => rfl)) <| Rc 4 [vi z_3, vi (bitsOp .and .i64 z_3 63), vi (IntKind.wrap .i64 (at3 + (bitsOp .and .i64 z_3 63))), vi (IntKind.wrap .i64 (at3 + (bitsOp .and .i64 z_3 63)))] <| Rk <| Sq <| Sq <| Ro <| Rc 4 [vi (IntKind.wrap .i64 (at3 + (bitsOp .and .i64 z_3 63))), vi (IntKind.wrap .i64 ((IntKind.wrap .i64 (at3 + (bitsOp .and .i64 z_3 63))) + 2)), vp [2] 0 0, ⟨.ref [6] v_6 0 (mY y2.Bytes).length 1, []⟩] <| Rt (some 40) .lenL [] none [.ref [6] v_6 0 (mY y2.Bytes).length 1] (.i (y2.Bytes.length : Int)) [] (cut_lenR (e := (D.int .u8)) y2.Bytes rfl) <| Rc 1 [vb (decide ((IntKind.wrap .i64 ((IntKind.wrap .i64 (at3 + (bitsOp .and .i64 z_3 63))) + 2)) > (y2.Bytes.length : Int)))] <| Rk ?_
   cases hb_3 : ((decide ((IntKind.wrap .i64 ((IntKind.wrap .i64 (at3 + (bitsOp .and .i64 z_3 63))) + 2)) > (y2.Bytes.length : Int))) : Bool) with
   | true =>
    replace h := ite_t hb_3 h
    refine Ct <| Runs.exit <| kS_exit <| kB_pass (by decide) <| kS_exit ?_
    obtain rfl := sj h
    exact ⟨nofun, rfl, (v_6, v_901_2), Cz⟩
   | false =>
    replace h := ite_f hb_3 h
    refine Cf <| Runs.skip <| kS_nrm <| Sq <| Ro <| Rc 4 [vp [2] 0 1, ⟨.ref [901, 2] v_901_2 0 (List.map (D.int .i64) y2.Relocs).length 1, []⟩, vi (IntKind.wrap .i64 (at3 + (bitsOp .and .i64 z_3 63))), ⟨.ref [45] 0 0 (List.map (D.int .i64) ([(IntKind.wrap .i64 (at3 + (bitsOp .and .i64 z_3 63)))] : List Int)).length 1, [([45], some (.arr (List.map (D.int .i64) ([(IntKind.wrap .i64 (at3 + (bitsOp .and .i64 z_3 63)))] : List Int)) 0 false))]⟩] ?_
    obtain ⟨z_4, hz_4, h⟩ := bind_s h
    refine Rt (some 46) (.append 1 8 false) [] none [.ref [901, 2] v_901_2 0 (List.map (D.int .i64) y2.Relocs).length 1, .ref [45] 0 0 (List.map (D.int .i64) ([(IntKind.wrap .i64 (at3 + (bitsOp .and .i64 z_3 63)))] : List Int)).length 1] (.ref [901, 2] (v_901_2 + 1) 0 (List.map (D.int .i64) z_4).length 1) [([901, 2], some (.arr (List.map (D.int .i64) z_4) (v_901_2 + 1) false))] (cut_appR (e := (D.int .i64)) (l := y2.Relocs) (fz := false) (ws := []) (ap_ref (e := (D.int .i64)) (l := ([(IntKind.wrap .i64 (at3 + (bitsOp .and .i64 z_3 63)))] : List Int)) (fz := false) (by kernel_rfl) (by kernel_rfl) rfl) (fun _ => rfl) hz_4 (by kernel_rfl) (by kernel_rfl) rfl) <| Rc 2 [vp [2] 0 1, ⟨.tup [], [([2], some (.cells [.ref [6] v_6 0 (mY y2.Bytes).length 1, .ref [901, 2] (v_901_2 + 1) 0 (List.map (D.int .i64) z_4).length 1, .w y2.CS, .w y2.IP, .w y2.SS, .w y2.SP, .i y2.Min] 0))]⟩] <| Rk <| Ro <| Rc 3 [vi (IntKind.wrap .i64 (at3 + (bitsOp .and .i64 z_3 63))), vi (IntKind.wrap .i64 ((IntKind.wrap .i64 (at3 + (bitsOp .and .i64 z_3 63))) + 2)), vi (IntKind.wrap .i64 ((IntKind.wrap .i64 (at3 + (bitsOp .and .i64 z_3 63))) + 2))] <| Rd <| kB_nrm <| kS_nrm <| Ro <| Rc 3 [vi i4, vi (IntKind.wrap .i64 (i4 + 1)), vi (IntKind.wrap .i64 (i4 + 1))] <| Rd ?_
    obtain rfl := sj h
    exact ⟨rfl, (v_6, (v_901_2 + 1)), Cz⟩
  | false =>
   replace h := ite_f hb_2 h
   refine Cf <| Runs.exit <| kS_exit ?_
   obtain rfl := sj h
   exact ⟨nofun, rfl, (v_6, v_901_2), Cz⟩
 | false =>
  replace h := ite_f hb_1 h
  refine Rc 3 [vn, vn, vb false] <| Rk <| Cf <| Runs.exit <| kS_exit ?_
  obtain rfl := sj h
  exact ⟨nofun, rfl, (v_6, v_901_2), Cz⟩
theorem hansomref44_Near_ok (x_ : Image) (r : Image) (h : hansomref44_Near x_ = some r) : Runs L F29.body ⟨tmOf [.d (Image.d x_)] 0, updW (fun _ => none) []⟩ (hansomref44_Near_Q x_ r) := by
 unfold hansomref44_Near at h
 refine Sq <| Ro <| Rc 2 [⟨.ptr [1] 0 0, [([1], some (.cells [.d (.sl (mY x_.Bytes)), .d (.sl (List.map (D.int .i64) x_.Relocs)), .w x_.CS, .w x_.IP, .w x_.SS, .w x_.SP, .i x_.Min] 0))]⟩, ⟨.ptr [2] 0 0, [([2], some (.cells [.nils, .nils, .w 0, .w 0, .w 0, .w 0, .i 0] 0))]⟩] <| Rk <| Runs.canon (hansomref44_Near_h2 x_ ([] : List Int) 0 0 0 0 0 0) (Canon.cons (ownB_nil (ver := 0) (v := 0) (cs := [.nils, .nils, .w 0, .w 0, .w 0, .w 0, .i 0]) (cs' := [.nils, .ref [901, 2] 0 0 (List.map (D.int .i64) ([] : List Int)).length 1, .w 0, .w 0, .w 0, .w 0, .i 0]) (D.int .i64) (by kernel_rfl) (by kernel_rfl) (by kernel_rfl) (by decide) (by kernel_rfl)) Cz) <| Sq <| Ro <| Rc 2 [⟨.d (Image.d x_), []⟩, ⟨.tup [], [([2], some (.cells [.d (.sl (mY x_.Bytes)), .d (.sl (List.map (D.int .i64) x_.Relocs)), .w x_.CS, .w x_.IP, .w x_.SS, .w x_.SP, .i x_.Min] 0))]⟩] <| Rk <| Sq <| Ro <| Rc 5 [⟨.ref [6] 0 0 (mY ([] : List Int)).length 1, [([6], some (.arr (mY ([] : List Int)) 0 false))]⟩, vp [1] 0 0, ⟨.d (.sl (mY x_.Bytes)), []⟩, vp [1] 0 0, ⟨.d (.sl (mY x_.Bytes)), []⟩] ?_
 refine Rt (some 11) .lenL [] none [.d (.sl (mY x_.Bytes))] (.i (x_.Bytes.length : Int)) [] (cut_len _) <| Rc 1 [vi (mnI (x_.Bytes.length : Int) 600)] ?_
 obtain ⟨z_1, hz_1, h⟩ := bind_s h
 refine Rt (some 13) (.subsl 1 false true false) [] none [.d (.sl (mY x_.Bytes)), .i (mnI (x_.Bytes.length : Int) 600)] (.d (.sl (mY z_1))) [] (cut_slFT hz_1 (fun _ => rfl)) ?_
 obtain ⟨z_2, hz_2, h⟩ := bind_s h
 refine Rt (some 14) (.append 1 1 false) [] none [.ref [6] 0 0 (mY ([] : List Int)).length 1, .d (.sl (mY z_1))] (.ref [6] 1 0 (mY z_2).length 1) [([6], some (.arr (mY z_2) 1 false))] (cut_appR (e := (D.int .u8)) (l := ([] : List Int)) (fz := false) (ws := []) (ap_data _) (fun _ => rfl) hz_2 (by kernel_rfl) (by kernel_rfl) rfl) <| Rc 2 [vp [2] 0 0, ⟨.tup [], [([2], some (.cells [.ref [6] 1 0 (mY z_2).length 1, .d (.sl (List.map (D.int .i64) x_.Relocs)), .w x_.CS, .w x_.IP, .w x_.SS, .w x_.SP, .i x_.Min] 0))]⟩] <| Rk <| Sq <| Ro <| Rc 2 [vp [2] 0 1, ⟨.tup [], [([2], some (.cells [.ref [6] 1 0 (mY z_2).length 1, .nils, .w x_.CS, .w x_.IP, .w x_.SS, .w x_.SP, .i x_.Min] 0))]⟩] <| Rk <| Runs.canon (hansomref44_Near_h8 x_ ({ x_ with Bytes := z_2, Relocs := ([] : List Int) } : Image) 1 1) (Canon.cons (ownB_nil (ver := 0) (v := 1) (cs := [.ref [6] 1 0 (mY z_2).length 1, .nils, .w x_.CS, .w x_.IP, .w x_.SS, .w x_.SP, .i x_.Min]) (cs' := [.ref [6] 1 0 (mY z_2).length 1, .ref [901, 2] 1 0 (List.map (D.int .i64) ([] : List Int)).length 1, .w x_.CS, .w x_.IP, .w x_.SS, .w x_.SP, .i x_.Min]) (D.int .i64) (by kernel_rfl) (by kernel_rfl) (by kernel_rfl) (by decide) (by kernel_rfl)) Cz) ?_
 refine Sq <| Ro <| Rc 1 [vi 0] <| Rk <| Sq <| Sq <| Ro <| Rc 1 [vi 0] <| Rk <| Runs.block ?_
 obtain ⟨e_1, he_1, h⟩ := bind_s h
 refine Runs.loop (fun x : (Image × Int × Int) => hansomref44_Near_l14 x_ x.1 x.2.1 x.2.2) (fun (x : (Image × Int × Int)) (g : (Nat × Nat)) => hansomref44_Near_h14 x_ x.1 x.2.1 x.2.2 g.1 g.2) (hansomref44_Near_P14 x_ x_) (fun x g r hr => hansomref44_Near_l14_ok x_ x_ x.1 x.2.1 x.2.2 g.1 g.2 r hr) (1, 1) he_1 Cz ?_
 rintro ⟨o, s⟩ hp
 obtain ⟨ho, g_1, hk_1⟩ := hp
 have ho' : o = .exit 0 := ho
 subst ho'
 refine kB_hit <| kS_nrm <| Runs.canon _ hk_1 <| Sq <| Ro <| Rc 5 [vp [1] 0 6, vi x_.Min, vi (bitsOp .and .i64 x_.Min 255), vp [2] 0 6, ⟨.tup [], [([2], some (.cells [.ref [6] g_1.1 0 (mY e_1.Bytes).length 1, .ref [901, 2] g_1.2 0 (List.map (D.int .i64) e_1.Relocs).length 1, .w e_1.CS, .w e_1.IP, .w e_1.SS, .w e_1.SP, .i (bitsOp .and .i64 x_.Min 255)] 0))]⟩] <| Rk <| Sq <| Ro <| Rc 2 [⟨.mix [.ref [6] g_1.1 0 (mY e_1.Bytes).length 1, .ref [901, 2] g_1.2 0 (List.map (D.int .i64) e_1.Relocs).length 1, .w e_1.CS, .w e_1.IP, .w e_1.SS, .w e_1.SP, .i (bitsOp .and .i64 x_.Min 255)], []⟩, ⟨.tup [], [([2], some (.cells [.ref [6] g_1.1 0 (mY e_1.Bytes).length 1, .ref [901, 2] g_1.2 0 (List.map (D.int .i64) e_1.Relocs).length 1, .w e_1.CS, .w e_1.IP, .w e_1.SS, .w e_1.SP, .i (bitsOp .and .i64 x_.Min 255)] 0))]⟩] <| Rk <| Sq <| Runs.gcons (frzB_ref (e := (D.int .u8)) (l := e_1.Bytes) (id := [2]) (id' := [6]) (v := g_1.1) (n := 1) (fz := false) (ver := 0) (cs := [.ref [6] g_1.1 0 (mY e_1.Bytes).length 1, .ref [901, 2] g_1.2 0 (List.map (D.int .i64) e_1.Relocs).length 1, .w e_1.CS, .w e_1.IP, .w e_1.SS, .w e_1.SP, .i (bitsOp .and .i64 x_.Min 255)]) (cs' := [.d (.sl (mY e_1.Bytes)), .ref [901, 2] g_1.2 0 (List.map (D.int .i64) e_1.Relocs).length 1, .w e_1.CS, .w e_1.IP, .w e_1.SS, .w e_1.SP, .i (bitsOp .and .i64 x_.Min 255)]) (by kernel_rfl) (by kernel_rfl) (by kernel_rfl) (by decide) (by kernel_rfl) rfl) ?_
 refine Runs.gcons (frzB_ref (e := (D.int .i64)) (l := e_1.Relocs) (id := [2]) (id' := [901, 2]) (v := g_1.2) (n := 1) (fz := false) (ver := 0) (cs := [.d (.sl (mY e_1.Bytes)), .ref [901, 2] g_1.2 0 (List.map (D.int .i64) e_1.Relocs).length 1, .w e_1.CS, .w e_1.IP, .w e_1.SS, .w e_1.SP, .i (bitsOp .and .i64 x_.Min 255)]) (cs' := [.d (.sl (mY e_1.Bytes)), .d (.sl (List.map (D.int .i64) e_1.Relocs)), .w e_1.CS, .w e_1.IP, .w e_1.SS, .w e_1.SP, .i (bitsOp .and .i64 x_.Min 255)]) (by kernel_rfl) (by kernel_rfl) (by kernel_rfl) (by decide) (by kernel_rfl) rfl) <| Runs.gnil <| kS_nrm <| Runs.ret ?_
 cases h
 exact Fq
theorem hansomref44_Near_L (x_ : Image) (r : Image) (h : hansomref44_Near x_ = some r) : L 29 [.d (Image.d x_)] = some (.d (Image.d r), [.d (Image.d x_)]) := by
 obtain ⟨p, ⟨hne, hf⟩, hr⟩ := hansomref44_Near_ok x_ r h
 obtain ⟨k, hk⟩ := run_of (F := F29) (args := [.d (Image.d x_)]) (ap := [.d (Image.d x_)]) (bx0 := updW (fun _ => none) []) rfl rfl (by kernel_rfl) ⟨p, ⟨hne, hf⟩, hr⟩
 exact lim_run (k := k) rfl hk
def hansomref18_Bytes_h8 (n0 : Int) (many1 : Int) (s5 : (List UInt8)) (i6 : Int) : St := ⟨tab [(0, .d (.int .u64 n0)), (1, .i many1), (5, .d (.str s5)), (6, .i i6)], tabB []⟩
def hansomref18_Bytes_h21 (s5 : (List UInt8)) : St := ⟨tab [(5, .d (.str s5))], tabB []⟩
def hansomref18_Bytes_Q (n_ : Int) (many_ : Int) (r : (List UInt8)) (p : Out × St) : Prop := (∀ i, p.1 ≠ .exit i) ∧ finF F58 [.d (.int .u64 n_), .i many_] p.2 = some (.d (.str r), [.d (.int .u64 n_), .i many_])
def hansomref18_Bytes_P8 (n_ : Int) (many_ : Int) (many1 : Int) (e : (List UInt8)) (p : Out × St) : Prop := p.1 = .exit 0 ∧ ∃ g : Unit, Canon [] [5] [] p.2 (hansomref18_Bytes_h21 e)
theorem hansomref18_Bytes_l8_ok (n_ : Int) (many_ : Int) (n0 : Int) (many1 : Int) (s5 : (List UInt8)) (i6 : Int) (r : (Lp (Int × (List UInt8) × Int) (List UInt8))) (h : hansomref18_Bytes_l8 n0 many1 s5 i6 = some r) : Runs L F58l8 (hansomref18_Bytes_h8 n0 many1 s5 i6) (LQ [] [0, 1, 5, 6] [] (fun (x : (Int × (List UInt8) × Int)) (g : Unit) => hansomref18_Bytes_h8 x.1 many1 x.2.1 x.2.2) (hansomref18_Bytes_P8 n_ many_ many1) r) := by
 unfold hansomref18_Bytes_l8 at h
 refine Sq <| Sq <| Ro <| Rc 3 [vi i6, vi many1, vb (decide (i6 < many1))] <| Rk ?_
 cases hb_1 : ((decide (i6 < many1)) : Bool) with
 | true =>
  replace h := ite_t hb_1 h
  refine Ct <| Runs.skip <| kS_nrm <| Sq <| Runs.block <| Sq <| Ro <| Rc 5 [⟨.d (.str s5), []⟩, ⟨.d (.int .u64 n0), []⟩, ⟨.d (.int .u64 (Int.tmod n0 256)), []⟩, vy (IntKind.wrap .u8 (Int.tmod n0 256)), ⟨.ref [16] 0 0 (mY ([(IntKind.wrap .u8 (Int.tmod n0 256))] : List Int)).length 1, [([16], some (.arr (mY ([(IntKind.wrap .u8 (Int.tmod n0 256))] : List Int)) 0 false))]⟩] <| Rt (some 17) .bytesStr [] none [.ref [16] 0 0 (mY ([(IntKind.wrap .u8 (Int.tmod n0 256))] : List Int)).length 1] (.d (.str (b2s ([(IntKind.wrap .u8 (Int.tmod n0 256))] : List Int)))) [] (cut_bsR (l := ([(IntKind.wrap .u8 (Int.tmod n0 256))] : List Int)) (fz := false) (by kernel_rfl) (by kernel_rfl) rfl) ?_
  obtain ⟨z_1, hz_1, h⟩ := bind_s h
  refine Rt (some 18) (.bin .add) [] none [.d (.str s5), .d (.str (b2s ([(IntKind.wrap .u8 (Int.tmod n0 256))] : List Int)))] (.d (.str z_1)) [] (cut_cat hz_1) <| Rc 1 [⟨.d (.str z_1), []⟩] <| Rk <| Ro <| Rc 3 [⟨.d (.int .u64 n0), []⟩, ⟨.d (.int .u64 (IntKind.wrap .u64 (Int.tdiv n0 256))), []⟩, ⟨.d (.int .u64 (IntKind.wrap .u64 (Int.tdiv n0 256))), []⟩] <| Rd <| kB_nrm <| kS_nrm <| Ro <| Rc 3 [vi i6, vi (IntKind.wrap .i64 (i6 + 1)), vi (IntKind.wrap .i64 (i6 + 1))] <| Rd ?_
  obtain rfl := sj h
  exact ⟨rfl, (), Cz⟩
 | false =>
  replace h := ite_f hb_1 h
  refine Cf <| Runs.exit <| kS_exit ?_
  obtain rfl := sj h
  exact ⟨nofun, rfl, (), Cz⟩
theorem hansomref18_Bytes_ok (n_ : Int) (many_ : Int) (r : (List UInt8)) (h : hansomref18_Bytes n_ many_ = some r) : Runs L F58.body ⟨tmOf [.d (.int .u64 n_), .i many_] 0, updW (fun _ => none) []⟩ (hansomref18_Bytes_Q n_ many_ r) := by
 unfold hansomref18_Bytes at h
 refine Sq <| Ro <| Rc 1 [⟨.d (.str ([] : List UInt8)), []⟩] <| Rk <| Sq <| Ro <| Rc 1 [⟨.d (.str ([] : List UInt8)), []⟩] <| Rk <| Sq <| Sq <| Ro <| Rc 1 [vi 0] <| Rk <| Runs.block ?_
 obtain ⟨e_1, he_1, h⟩ := bind_s h
 refine Runs.loop (fun x : (Int × (List UInt8) × Int) => hansomref18_Bytes_l8 x.1 many_ x.2.1 x.2.2) (fun (x : (Int × (List UInt8) × Int)) (g : Unit) => hansomref18_Bytes_h8 x.1 many_ x.2.1 x.2.2) (hansomref18_Bytes_P8 n_ many_ many_) (fun x g r hr => hansomref18_Bytes_l8_ok n_ many_ x.1 many_ x.2.1 x.2.2  r hr) () he_1 Cz ?_
 rintro ⟨o, s⟩ hp
 obtain ⟨ho, g_1, hk_1⟩ := hp
 have ho' : o = .exit 0 := ho
 subst ho'
 refine kB_hit <| kS_nrm <| Runs.canon _ hk_1 <| Sq <| Ro <| Rc 2 [⟨.d (.str e_1), []⟩, ⟨.d (.str e_1), []⟩] <| Rk <| Runs.ret ?_
 cases h
 exact Fq
theorem hansomref18_Bytes_L (n_ : Int) (many_ : Int) (r : (List UInt8)) (h : hansomref18_Bytes n_ many_ = some r) : L 58 [.d (.int .u64 n_), .i many_] = some (.d (.str r), [.d (.int .u64 n_), .i many_]) := by
 obtain ⟨p, ⟨hne, hf⟩, hr⟩ := hansomref18_Bytes_ok n_ many_ r h
 obtain ⟨k, hk⟩ := run_of (F := F58) (args := [.d (.int .u64 n_), .i many_]) (ap := [.d (.int .u64 n_), .i many_]) (bx0 := updW (fun _ => none) []) rfl rfl (by kernel_rfl) ⟨p, ⟨hne, hf⟩, hr⟩
 exact lim_run (k := k) rfl hk
def hansomref44_Write_h14 (x1 : Image) (head3 : Int) (s5 : (List UInt8)) (l6 : (List Int)) (i7 : Int) : St := ⟨tab [(1, .ptr [1] 0 0), (3, .i head3), (5, .d (.str s5)), (6, .d (.sl (List.map (D.int .i64) l6))), (7, .i i7)], tabB [([1], some (.cells [.d (.sl (mY x1.Bytes)), .d (.sl (List.map (D.int .i64) x1.Relocs)), .w x1.CS, .w x1.IP, .w x1.SS, .w x1.SP, .i x1.Min] 0))]⟩
def hansomref44_Write_h25 (x1 : Image) (head3 : Int) (s5 : (List UInt8)) : St := ⟨tab [(1, .ptr [1] 0 0), (3, .i head3), (5, .d (.str s5))], tabB [([1], some (.cells [.d (.sl (mY x1.Bytes)), .d (.sl (List.map (D.int .i64) x1.Relocs)), .w x1.CS, .w x1.IP, .w x1.SS, .w x1.SP, .i x1.Min] 0))]⟩
def hansomref44_Write_h29 (x1 : Image) (head3 : Int) (s5 : (List UInt8)) (i8 : Int) : St := ⟨tab [(1, .ptr [1] 0 0), (3, .i head3), (5, .d (.str s5)), (8, .i i8)], tabB [([1], some (.cells [.d (.sl (mY x1.Bytes)), .d (.sl (List.map (D.int .i64) x1.Relocs)), .w x1.CS, .w x1.IP, .w x1.SS, .w x1.SP, .i x1.Min] 0))]⟩
def hansomref44_Write_h40 (x1 : Image) (head3 : Int) (s5 : (List UInt8)) : St := ⟨tab [(1, .ptr [1] 0 0), (3, .i head3), (5, .d (.str s5))], tabB [([1], some (.cells [.d (.sl (mY x1.Bytes)), .d (.sl (List.map (D.int .i64) x1.Relocs)), .w x1.CS, .w x1.IP, .w x1.SS, .w x1.SP, .i x1.Min] 0))]⟩
def hansomref44_Write_h42 (x1 : Image) (head3 : Int) (s5 : (List UInt8)) : St := ⟨tab [(1, .ptr [1] 0 0), (3, .i head3), (5, .d (.str s5))], tabB [([1], some (.cells [.d (.sl (mY x1.Bytes)), .d (.sl (List.map (D.int .i64) x1.Relocs)), .w x1.CS, .w x1.IP, .w x1.SS, .w x1.SP, .i x1.Min] 0))]⟩
def hansomref44_Write_h51 (x1 : Image) (s5 : (List UInt8)) : St := ⟨tab [(1, .ptr [1] 0 0), (5, .d (.str s5))], tabB [([1], some (.cells [.d (.sl (mY x1.Bytes)), .d (.sl (List.map (D.int .i64) x1.Relocs)), .w x1.CS, .w x1.IP, .w x1.SS, .w x1.SP, .i x1.Min] 0))]⟩
def hansomref44_Write_Q (x_ : Image) (r : (List UInt8)) (p : Out × St) : Prop := (∀ i, p.1 ≠ .exit i) ∧ finF F30 [.d (Image.d x_)] p.2 = some (.d (.str r), [.d (Image.d x_)])
def hansomref44_Write_P14 (x_ : Image) (x1 : Image) (head3 : Int) (l6 : (List Int)) (e : (List UInt8)) (p : Out × St) : Prop := p.1 = .exit 0 ∧ ∃ g : Unit, Canon [] [1, 3, 5] [[1]] p.2 (hansomref44_Write_h25 x1 head3 e)
def hansomref44_Write_P29 (x_ : Image) (x1 : Image) (head3 : Int) (e : (List UInt8)) (p : Out × St) : Prop := p.1 = .exit 2 ∧ ∃ g : Unit, Canon [] [1, 3, 5] [[1]] p.2 (hansomref44_Write_h40 x1 head3 e)
def hansomref44_Write_P42 (x_ : Image) (x1 : Image) (head3 : Int) (e : (List UInt8)) (p : Out × St) : Prop := p.1 = .exit 4 ∧ ∃ g : Unit, Canon [] [1, 5] [[1]] p.2 (hansomref44_Write_h51 x1 e)
theorem hansomref44_Write_l14_ok (x_ : Image) (x1 : Image) (head3 : Int) (s5 : (List UInt8)) (l6 : (List Int)) (i7 : Int) (r : (Lp ((List UInt8) × Int) (List UInt8))) (h : hansomref44_Write_l14 x1 head3 s5 l6 i7 = some r) : Runs L F30l14 (hansomref44_Write_h14 x1 head3 s5 l6 i7) (LQ [.frz 6] [1, 3, 5, 6, 7] [[1]] (fun (x : ((List UInt8) × Int)) (g : Unit) => hansomref44_Write_h14 x1 head3 x.1 l6 x.2) (hansomref44_Write_P14 x_ x1 head3 l6) r) := by
 unfold hansomref44_Write_l14 at h
 refine Sq <| Sq <| Ro <| Rc 2 [vi i7, ⟨.d (.sl (List.map (D.int .i64) l6)), []⟩] <| Rt (some 49) .lenL [] none [.d (.sl (List.map (D.int .i64) l6))] (.i (l6.length : Int)) [] (cut_len _) <| Rc 1 [vb (decide (i7 < (l6.length : Int)))] <| Rk ?_
 cases hb_1 : ((decide (i7 < (l6.length : Int))) : Bool) with
 | true =>
  replace h := ite_t hb_1 h
  refine Ct <| Runs.skip <| kS_nrm <| Sq <| Runs.block <| Ro <| Rc 3 [⟨.d (.str s5), []⟩, ⟨.d (.sl (List.map (D.int .i64) l6)), []⟩, vi i7] ?_
  obtain ⟨z_1, hz_1, h⟩ := bind_s h
  refine Rt (some 56) (.iaddrS 1) [] none [.d (.sl (List.map (D.int .i64) l6)), .i i7] (.elt (.int .i64 z_1) 0) [] (cut_at hz_1 (fun _ => rfl)) <| Rc 2 [vi z_1, ⟨.d (.int .u64 (IntKind.wrap .u64 z_1)), []⟩] ?_
  obtain ⟨r_1, hr_1, h⟩ := bind_s h
  have hc_1 := hansomref18_Bytes_L (IntKind.wrap .u64 z_1) 2 r_1 hr_1
  refine Rt (some 59) (.callf 58) [] none [.d (.int .u64 (IntKind.wrap .u64 z_1)), .i 2] (.d (.str r_1)) [] (cc hc_1) ?_
  obtain ⟨z_2, hz_2, h⟩ := bind_s h
  refine Rt (some 60) (.bin .add) [] none [.d (.str s5), .d (.str r_1)] (.d (.str z_2)) [] (cut_cat hz_2) <| Rc 1 [⟨.d (.str z_2), []⟩] <| Rd <| kB_nrm <| kS_nrm <| Ro <| Rc 3 [vi i7, vi (IntKind.wrap .i64 (i7 + 1)), vi (IntKind.wrap .i64 (i7 + 1))] <| Rd ?_
  obtain rfl := sj h
  exact ⟨rfl, (), (Canon.same (by kernel_rfl) Cz)⟩
 | false =>
  replace h := ite_f hb_1 h
  refine Cf <| Runs.exit <| kS_exit ?_
  obtain rfl := sj h
  exact ⟨nofun, rfl, (), Cz⟩
theorem hansomref44_Write_l29_ok (x_ : Image) (x1 : Image) (head3 : Int) (s5 : (List UInt8)) (i8 : Int) (r : (Lp ((List UInt8) × Int) (List UInt8))) (h : hansomref44_Write_l29 x1 head3 s5 i8 = some r) : Runs L F30l29 (hansomref44_Write_h29 x1 head3 s5 i8) (LQ [] [1, 3, 5, 8] [[1]] (fun (x : ((List UInt8) × Int)) (g : Unit) => hansomref44_Write_h29 x1 head3 x.1 x.2) (hansomref44_Write_P29 x_ x1 head3) r) := by
 unfold hansomref44_Write_l29 at h
 refine Sq <| Sq <| Ro <| Rc 3 [vi i8, vp [1] 0 1, ⟨.d (.sl (List.map (D.int .i64) x1.Relocs)), []⟩] <| Rt (some 64) .lenL [] none [.d (.sl (List.map (D.int .i64) x1.Relocs))] (.i (x1.Relocs.length : Int)) [] (cut_len _) <| Rc 1 [vb (decide (i8 < (x1.Relocs.length : Int)))] <| Rk ?_
 cases hb_1 : ((decide (i8 < (x1.Relocs.length : Int))) : Bool) with
 | true =>
  replace h := ite_t hb_1 h
  refine Ct <| Runs.skip <| kS_nrm <| Sq <| Runs.block <| Ro <| Rc 4 [⟨.d (.str s5), []⟩, vp [1] 0 1, ⟨.d (.sl (List.map (D.int .i64) x1.Relocs)), []⟩, vi i8] ?_
  obtain ⟨z_1, hz_1, h⟩ := bind_s h
  refine Rt (some 72) (.iaddrS 1) [] none [.d (.sl (List.map (D.int .i64) x1.Relocs)), .i i8] (.elt (.int .i64 z_1) 0) [] (cut_at hz_1 (fun _ => rfl)) <| Rc 3 [vi z_1, vi (Int.tmod z_1 16), ⟨.d (.int .u64 (IntKind.wrap .u64 (Int.tmod z_1 16))), []⟩] ?_
  obtain ⟨r_1, hr_1, h⟩ := bind_s h
  have hc_1 := hansomref18_Bytes_L (IntKind.wrap .u64 (Int.tmod z_1 16)) 2 r_1 hr_1
  refine Rt (some 76) (.callf 58) [] (some []) [.d (.int .u64 (IntKind.wrap .u64 (Int.tmod z_1 16))), .i 2] (.d (.str r_1)) [] (cc hc_1) <| Rc 3 [vp [1] 0 1, ⟨.d (.sl (List.map (D.int .i64) x1.Relocs)), []⟩, vi i8] ?_
  obtain ⟨z_2, hz_2, h⟩ := bind_s h
  refine Rt (some 80) (.iaddrS 1) [] none [.d (.sl (List.map (D.int .i64) x1.Relocs)), .i i8] (.elt (.int .i64 z_2) 0) [] (cut_at hz_2 (fun _ => rfl)) <| Rc 3 [vi z_2, vi (IntKind.wrap .i64 (Int.tdiv z_2 16)), ⟨.d (.int .u64 (IntKind.wrap .u64 (IntKind.wrap .i64 (Int.tdiv z_2 16)))), []⟩] ?_
  obtain ⟨r_2, hr_2, h⟩ := bind_s h
  have hc_2 := hansomref18_Bytes_L (IntKind.wrap .u64 (IntKind.wrap .i64 (Int.tdiv z_2 16))) 2 r_2 hr_2
  refine Rt (some 84) (.callf 58) [] none [.d (.int .u64 (IntKind.wrap .u64 (IntKind.wrap .i64 (Int.tdiv z_2 16)))), .i 2] (.d (.str r_2)) [] (cc hc_2) ?_
  obtain ⟨z_3, hz_3, h⟩ := bind_s h
  refine Rt (some 85) (.bin .add) [] none [.d (.str r_1), .d (.str r_2)] (.d (.str z_3)) [] (cut_cat hz_3) ?_
  obtain ⟨z_4, hz_4, h⟩ := bind_s h
  refine Rt (some 86) (.bin .add) [] none [.d (.str s5), .d (.str z_3)] (.d (.str z_4)) [] (cut_cat hz_4) <| Rc 1 [⟨.d (.str z_4), []⟩] <| Rd <| kB_nrm <| kS_nrm <| Ro <| Rc 3 [vi i8, vi (IntKind.wrap .i64 (i8 + 1)), vi (IntKind.wrap .i64 (i8 + 1))] <| Rd ?_
  obtain rfl := sj h
  exact ⟨rfl, (), Cz⟩
 | false =>
  replace h := ite_f hb_1 h
  refine Cf <| Runs.exit <| kS_exit ?_
  obtain rfl := sj h
  exact ⟨nofun, rfl, (), Cz⟩
theorem hansomref44_Write_l42_ok (x_ : Image) (x1 : Image) (head3 : Int) (s5 : (List UInt8)) (r : (Lp (List UInt8) (List UInt8))) (h : hansomref44_Write_l42 x1 head3 s5 = some r) : Runs L F30l42 (hansomref44_Write_h42 x1 head3 s5) (LQ [] [1, 3, 5] [[1]] (fun (x : (List UInt8)) (g : Unit) => hansomref44_Write_h42 x1 head3 x) (hansomref44_Write_P42 x_ x1 head3) r) := by
 unfold hansomref44_Write_l42 at h
 refine Sq <| Sq <| Ro <| Rc 1 [⟨.d (.str s5), []⟩] <| Rt (some 88) .lenS [] none [.d (.str s5)] (.i (s5.length : Int)) [] (cut_lenS _) <| Rc 2 [vi head3, vb (decide ((s5.length : Int) < head3))] <| Rk ?_
 cases hb_1 : ((decide ((s5.length : Int) < head3)) : Bool) with
 | true =>
  replace h := ite_t hb_1 h
  refine Ct <| Runs.skip <| kS_nrm <| Runs.block <| Ro <| Rc 1 [⟨.d (.str s5), []⟩] ?_
  obtain ⟨z_1, hz_1, h⟩ := bind_s h
  refine Rt (some 92) (.bin .add) [] none [.d (.str s5), .d (.str ([0] : List UInt8))] (.d (.str z_1)) [] (cut_cat hz_1) <| Rc 1 [⟨.d (.str z_1), []⟩] <| Rd <| kB_nrm ?_
  obtain rfl := sj h
  exact ⟨rfl, (), Cz⟩
 | false =>
  replace h := ite_f hb_1 h
  refine Cf <| Runs.exit <| kS_exit ?_
  obtain rfl := sj h
  exact ⟨nofun, rfl, (), Cz⟩
theorem hansomref44_Write_ok (x_ : Image) (r : (List UInt8)) (h : hansomref44_Write x_ = some r) : Runs L F30.body ⟨tmOf [.d (Image.d x_)] 0, updW (fun _ => none) []⟩ (hansomref44_Write_Q x_ r) := by
 unfold hansomref44_Write at h
 refine Sq <| Ro <| Rc 2 [⟨.ptr [1] 0 0, [([1], some (.cells [.d (.sl (mY x_.Bytes)), .d (.sl (List.map (D.int .i64) x_.Relocs)), .w x_.CS, .w x_.IP, .w x_.SS, .w x_.SP, .i x_.Min] 0))]⟩, ⟨.d (.str ([] : List UInt8)), []⟩] <| Rk <| Sq <| Ro <| Rc 2 [vp [1] 0 1, ⟨.d (.sl (List.map (D.int .i64) x_.Relocs)), []⟩] <| Rt (some 11) .lenL [] none [.d (.sl (List.map (D.int .i64) x_.Relocs))] (.i (x_.Relocs.length : Int)) [] (cut_len _) <| Rc 6 [vi (IntKind.wrap .i64 (4 * (x_.Relocs.length : Int))), vi (IntKind.wrap .i64 (28 + (IntKind.wrap .i64 (4 * (x_.Relocs.length : Int))))), vi (IntKind.wrap .i64 ((IntKind.wrap .i64 (28 + (IntKind.wrap .i64 (4 * (x_.Relocs.length : Int))))) + 15)), vi (IntKind.wrap .i64 (Int.tdiv (IntKind.wrap .i64 ((IntKind.wrap .i64 (28 + (IntKind.wrap .i64 (4 * (x_.Relocs.length : Int))))) + 15)) 16)), vi (IntKind.wrap .i64 ((IntKind.wrap .i64 (Int.tdiv (IntKind.wrap .i64 ((IntKind.wrap .i64 (28 + (IntKind.wrap .i64 (4 * (x_.Relocs.length : Int))))) + 15)) 16)) * 16)), vi (IntKind.wrap .i64 ((IntKind.wrap .i64 (Int.tdiv (IntKind.wrap .i64 ((IntKind.wrap .i64 (28 + (IntKind.wrap .i64 (4 * (x_.Relocs.length : Int))))) + 15)) 16)) * 16))] <| Rk <| Sq <| Ro <| Rc 3 [vi (IntKind.wrap .i64 ((IntKind.wrap .i64 (Int.tdiv (IntKind.wrap .i64 ((IntKind.wrap .i64 (28 + (IntKind.wrap .i64 (4 * (x_.Relocs.length : Int))))) + 15)) 16)) * 16)), vp [1] 0 0, ⟨.d (.sl (mY x_.Bytes)), []⟩] ?_
 refine Rt (some 20) .lenL [] none [.d (.sl (mY x_.Bytes))] (.i (x_.Bytes.length : Int)) [] (cut_len _) <| Rc 2 [vi (IntKind.wrap .i64 ((IntKind.wrap .i64 ((IntKind.wrap .i64 (Int.tdiv (IntKind.wrap .i64 ((IntKind.wrap .i64 (28 + (IntKind.wrap .i64 (4 * (x_.Relocs.length : Int))))) + 15)) 16)) * 16)) + (x_.Bytes.length : Int))), vi (IntKind.wrap .i64 ((IntKind.wrap .i64 ((IntKind.wrap .i64 (Int.tdiv (IntKind.wrap .i64 ((IntKind.wrap .i64 (28 + (IntKind.wrap .i64 (4 * (x_.Relocs.length : Int))))) + 15)) 16)) * 16)) + (x_.Bytes.length : Int)))] <| Rk <| Sq <| Ro <| Rc 1 [⟨.d (.str ([77, 90] : List UInt8)), []⟩] <| Rk <| Sq <| Ro <| Rc 7 [vi (IntKind.wrap .i64 ((IntKind.wrap .i64 ((IntKind.wrap .i64 (Int.tdiv (IntKind.wrap .i64 ((IntKind.wrap .i64 (28 + (IntKind.wrap .i64 (4 * (x_.Relocs.length : Int))))) + 15)) 16)) * 16)) + (x_.Bytes.length : Int))), vi (Int.tmod (IntKind.wrap .i64 ((IntKind.wrap .i64 ((IntKind.wrap .i64 (Int.tdiv (IntKind.wrap .i64 ((IntKind.wrap .i64 (28 + (IntKind.wrap .i64 (4 * (x_.Relocs.length : Int))))) + 15)) 16)) * 16)) + (x_.Bytes.length : Int))) 512), vi (IntKind.wrap .i64 ((IntKind.wrap .i64 ((IntKind.wrap .i64 (Int.tdiv (IntKind.wrap .i64 ((IntKind.wrap .i64 (28 + (IntKind.wrap .i64 (4 * (x_.Relocs.length : Int))))) + 15)) 16)) * 16)) + (x_.Bytes.length : Int))), vi (IntKind.wrap .i64 ((IntKind.wrap .i64 ((IntKind.wrap .i64 ((IntKind.wrap .i64 (Int.tdiv (IntKind.wrap .i64 ((IntKind.wrap .i64 (28 + (IntKind.wrap .i64 (4 * (x_.Relocs.length : Int))))) + 15)) 16)) * 16)) + (x_.Bytes.length : Int))) + 511)), vi (IntKind.wrap .i64 (Int.tdiv (IntKind.wrap .i64 ((IntKind.wrap .i64 ((IntKind.wrap .i64 ((IntKind.wrap .i64 (Int.tdiv (IntKind.wrap .i64 ((IntKind.wrap .i64 (28 + (IntKind.wrap .i64 (4 * (x_.Relocs.length : Int))))) + 15)) 16)) * 16)) + (x_.Bytes.length : Int))) + 511)) 512)), vp [1] 0 1, ⟨.d (.sl (List.map (D.int .i64) x_.Relocs)), []⟩] ?_
 refine Rt (some 29) .lenL [] none [.d (.sl (List.map (D.int .i64) x_.Relocs))] (.i (x_.Relocs.length : Int)) [] (cut_len _) <| Rc 18 [vi (IntKind.wrap .i64 ((IntKind.wrap .i64 (Int.tdiv (IntKind.wrap .i64 ((IntKind.wrap .i64 (28 + (IntKind.wrap .i64 (4 * (x_.Relocs.length : Int))))) + 15)) 16)) * 16)), vi (IntKind.wrap .i64 (Int.tdiv (IntKind.wrap .i64 ((IntKind.wrap .i64 (Int.tdiv (IntKind.wrap .i64 ((IntKind.wrap .i64 (28 + (IntKind.wrap .i64 (4 * (x_.Relocs.length : Int))))) + 15)) 16)) * 16)) 16)), vp [1] 0 6, vi x_.Min, vp [1] 0 4, vw x_.SS, vi (IntKind.wrap .i64 x_.SS), vp [1] 0 5, vw x_.SP, vi (IntKind.wrap .i64 x_.SP), vp [1] 0 3, vw x_.IP, vi (IntKind.wrap .i64 x_.IP), vp [1] 0 2, vw x_.CS, vi (IntKind.wrap .i64 x_.CS), ⟨.ref [46] 0 0 (List.map (D.int .i64) ([(Int.tmod (IntKind.wrap .i64 ((IntKind.wrap .i64 ((IntKind.wrap .i64 (Int.tdiv (IntKind.wrap .i64 ((IntKind.wrap .i64 (28 + (IntKind.wrap .i64 (4 * (x_.Relocs.length : Int))))) + 15)) 16)) * 16)) + (x_.Bytes.length : Int))) 512), (IntKind.wrap .i64 (Int.tdiv (IntKind.wrap .i64 ((IntKind.wrap .i64 ((IntKind.wrap .i64 ((IntKind.wrap .i64 (Int.tdiv (IntKind.wrap .i64 ((IntKind.wrap .i64 (28 + (IntKind.wrap .i64 (4 * (x_.Relocs.length : Int))))) + 15)) 16)) * 16)) + (x_.Bytes.length : Int))) + 511)) 512)), (x_.Relocs.length : Int), (IntKind.wrap .i64 (Int.tdiv (IntKind.wrap .i64 ((IntKind.wrap .i64 (Int.tdiv (IntKind.wrap .i64 ((IntKind.wrap .i64 (28 + (IntKind.wrap .i64 (4 * (x_.Relocs.length : Int))))) + 15)) 16)) * 16)) 16)), x_.Min, 65535, (IntKind.wrap .i64 x_.SS), (IntKind.wrap .i64 x_.SP), 0, (IntKind.wrap .i64 x_.IP), (IntKind.wrap .i64 x_.CS), 28, 0] : List Int)).length 1, [([46], some (.arr (List.map (D.int .i64) ([(Int.tmod (IntKind.wrap .i64 ((IntKind.wrap .i64 ((IntKind.wrap .i64 (Int.tdiv (IntKind.wrap .i64 ((IntKind.wrap .i64 (28 + (IntKind.wrap .i64 (4 * (x_.Relocs.length : Int))))) + 15)) 16)) * 16)) + (x_.Bytes.length : Int))) 512), (IntKind.wrap .i64 (Int.tdiv (IntKind.wrap .i64 ((IntKind.wrap .i64 ((IntKind.wrap .i64 ((IntKind.wrap .i64 (Int.tdiv (IntKind.wrap .i64 ((IntKind.wrap .i64 (28 + (IntKind.wrap .i64 (4 * (x_.Relocs.length : Int))))) + 15)) 16)) * 16)) + (x_.Bytes.length : Int))) + 511)) 512)), (x_.Relocs.length : Int), (IntKind.wrap .i64 (Int.tdiv (IntKind.wrap .i64 ((IntKind.wrap .i64 (Int.tdiv (IntKind.wrap .i64 ((IntKind.wrap .i64 (28 + (IntKind.wrap .i64 (4 * (x_.Relocs.length : Int))))) + 15)) 16)) * 16)) 16)), x_.Min, 65535, (IntKind.wrap .i64 x_.SS), (IntKind.wrap .i64 x_.SP), 0, (IntKind.wrap .i64 x_.IP), (IntKind.wrap .i64 x_.CS), 28, 0] : List Int)) 0 false))]⟩, ⟨.ref [46] 0 0 (List.map (D.int .i64) ([(Int.tmod (IntKind.wrap .i64 ((IntKind.wrap .i64 ((IntKind.wrap .i64 (Int.tdiv (IntKind.wrap .i64 ((IntKind.wrap .i64 (28 + (IntKind.wrap .i64 (4 * (x_.Relocs.length : Int))))) + 15)) 16)) * 16)) + (x_.Bytes.length : Int))) 512), (IntKind.wrap .i64 (Int.tdiv (IntKind.wrap .i64 ((IntKind.wrap .i64 ((IntKind.wrap .i64 ((IntKind.wrap .i64 (Int.tdiv (IntKind.wrap .i64 ((IntKind.wrap .i64 (28 + (IntKind.wrap .i64 (4 * (x_.Relocs.length : Int))))) + 15)) 16)) * 16)) + (x_.Bytes.length : Int))) + 511)) 512)), (x_.Relocs.length : Int), (IntKind.wrap .i64 (Int.tdiv (IntKind.wrap .i64 ((IntKind.wrap .i64 (Int.tdiv (IntKind.wrap .i64 ((IntKind.wrap .i64 (28 + (IntKind.wrap .i64 (4 * (x_.Relocs.length : Int))))) + 15)) 16)) * 16)) 16)), x_.Min, 65535, (IntKind.wrap .i64 x_.SS), (IntKind.wrap .i64 x_.SP), 0, (IntKind.wrap .i64 x_.IP), (IntKind.wrap .i64 x_.CS), 28, 0] : List Int)).length 1, []⟩] ?_
 refine Rk <| Sq <| Sq <| Ro <| Rc 1 [vi 0] <| Rk <| Runs.block ?_
 obtain ⟨e_1, he_1, h⟩ := bind_s h
 refine Runs.loop (fun x : ((List UInt8) × Int) => hansomref44_Write_l14 x_ (IntKind.wrap .i64 ((IntKind.wrap .i64 (Int.tdiv (IntKind.wrap .i64 ((IntKind.wrap .i64 (28 + (IntKind.wrap .i64 (4 * (x_.Relocs.length : Int))))) + 15)) 16)) * 16)) x.1 ([(Int.tmod (IntKind.wrap .i64 ((IntKind.wrap .i64 ((IntKind.wrap .i64 (Int.tdiv (IntKind.wrap .i64 ((IntKind.wrap .i64 (28 + (IntKind.wrap .i64 (4 * (x_.Relocs.length : Int))))) + 15)) 16)) * 16)) + (x_.Bytes.length : Int))) 512), (IntKind.wrap .i64 (Int.tdiv (IntKind.wrap .i64 ((IntKind.wrap .i64 ((IntKind.wrap .i64 ((IntKind.wrap .i64 (Int.tdiv (IntKind.wrap .i64 ((IntKind.wrap .i64 (28 + (IntKind.wrap .i64 (4 * (x_.Relocs.length : Int))))) + 15)) 16)) * 16)) + (x_.Bytes.length : Int))) + 511)) 512)), (x_.Relocs.length : Int), (IntKind.wrap .i64 (Int.tdiv (IntKind.wrap .i64 ((IntKind.wrap .i64 (Int.tdiv (IntKind.wrap .i64 ((IntKind.wrap .i64 (28 + (IntKind.wrap .i64 (4 * (x_.Relocs.length : Int))))) + 15)) 16)) * 16)) 16)), x_.Min, 65535, (IntKind.wrap .i64 x_.SS), (IntKind.wrap .i64 x_.SP), 0, (IntKind.wrap .i64 x_.IP), (IntKind.wrap .i64 x_.CS), 28, 0] : List Int) x.2) (fun (x : ((List UInt8) × Int)) (g : Unit) => hansomref44_Write_h14 x_ (IntKind.wrap .i64 ((IntKind.wrap .i64 (Int.tdiv (IntKind.wrap .i64 ((IntKind.wrap .i64 (28 + (IntKind.wrap .i64 (4 * (x_.Relocs.length : Int))))) + 15)) 16)) * 16)) x.1 ([(Int.tmod (IntKind.wrap .i64 ((IntKind.wrap .i64 ((IntKind.wrap .i64 (Int.tdiv (IntKind.wrap .i64 ((IntKind.wrap .i64 (28 + (IntKind.wrap .i64 (4 * (x_.Relocs.length : Int))))) + 15)) 16)) * 16)) + (x_.Bytes.length : Int))) 512), (IntKind.wrap .i64 (Int.tdiv (IntKind.wrap .i64 ((IntKind.wrap .i64 ((IntKind.wrap .i64 ((IntKind.wrap .i64 (Int.tdiv (IntKind.wrap .i64 ((IntKind.wrap .i64 (28 + (IntKind.wrap .i64 (4 * (x_.Relocs.length : Int))))) + 15)) 16)) * 16)) + (x_.Bytes.length : Int))) + 511)) 512)), (x_.Relocs.length : Int), (IntKind.wrap .i64 (Int.tdiv (IntKind.wrap .i64 ((IntKind.wrap .i64 (Int.tdiv (IntKind.wrap .i64 ((IntKind.wrap .i64 (28 + (IntKind.wrap .i64 (4 * (x_.Relocs.length : Int))))) + 15)) 16)) * 16)) 16)), x_.Min, 65535, (IntKind.wrap .i64 x_.SS), (IntKind.wrap .i64 x_.SP), 0, (IntKind.wrap .i64 x_.IP), (IntKind.wrap .i64 x_.CS), 28, 0] : List Int) x.2) (hansomref44_Write_P14 x_ x_ (IntKind.wrap .i64 ((IntKind.wrap .i64 (Int.tdiv (IntKind.wrap .i64 ((IntKind.wrap .i64 (28 + (IntKind.wrap .i64 (4 * (x_.Relocs.length : Int))))) + 15)) 16)) * 16)) ([(Int.tmod (IntKind.wrap .i64 ((IntKind.wrap .i64 ((IntKind.wrap .i64 (Int.tdiv (IntKind.wrap .i64 ((IntKind.wrap .i64 (28 + (IntKind.wrap .i64 (4 * (x_.Relocs.length : Int))))) + 15)) 16)) * 16)) + (x_.Bytes.length : Int))) 512), (IntKind.wrap .i64 (Int.tdiv (IntKind.wrap .i64 ((IntKind.wrap .i64 ((IntKind.wrap .i64 ((IntKind.wrap .i64 (Int.tdiv (IntKind.wrap .i64 ((IntKind.wrap .i64 (28 + (IntKind.wrap .i64 (4 * (x_.Relocs.length : Int))))) + 15)) 16)) * 16)) + (x_.Bytes.length : Int))) + 511)) 512)), (x_.Relocs.length : Int), (IntKind.wrap .i64 (Int.tdiv (IntKind.wrap .i64 ((IntKind.wrap .i64 (Int.tdiv (IntKind.wrap .i64 ((IntKind.wrap .i64 (28 + (IntKind.wrap .i64 (4 * (x_.Relocs.length : Int))))) + 15)) 16)) * 16)) 16)), x_.Min, 65535, (IntKind.wrap .i64 x_.SS), (IntKind.wrap .i64 x_.SP), 0, (IntKind.wrap .i64 x_.IP), (IntKind.wrap .i64 x_.CS), 28, 0] : List Int)) (fun x g r hr => hansomref44_Write_l14_ok x_ x_ (IntKind.wrap .i64 ((IntKind.wrap .i64 (Int.tdiv (IntKind.wrap .i64 ((IntKind.wrap .i64 (28 + (IntKind.wrap .i64 (4 * (x_.Relocs.length : Int))))) + 15)) 16)) * 16)) x.1 ([(Int.tmod (IntKind.wrap .i64 ((IntKind.wrap .i64 ((IntKind.wrap .i64 (Int.tdiv (IntKind.wrap .i64 ((IntKind.wrap .i64 (28 + (IntKind.wrap .i64 (4 * (x_.Relocs.length : Int))))) + 15)) 16)) * 16)) + (x_.Bytes.length : Int))) 512), (IntKind.wrap .i64 (Int.tdiv (IntKind.wrap .i64 ((IntKind.wrap .i64 ((IntKind.wrap .i64 ((IntKind.wrap .i64 (Int.tdiv (IntKind.wrap .i64 ((IntKind.wrap .i64 (28 + (IntKind.wrap .i64 (4 * (x_.Relocs.length : Int))))) + 15)) 16)) * 16)) + (x_.Bytes.length : Int))) + 511)) 512)), (x_.Relocs.length : Int), (IntKind.wrap .i64 (Int.tdiv (IntKind.wrap .i64 ((IntKind.wrap .i64 (Int.tdiv (IntKind.wrap .i64 ((IntKind.wrap .i64 (28 + (IntKind.wrap .i64 (4 * (x_.Relocs.length : Int))))) + 15)) 16)) * 16)) 16)), x_.Min, 65535, (IntKind.wrap .i64 x_.SS), (IntKind.wrap .i64 x_.SP), 0, (IntKind.wrap .i64 x_.IP), (IntKind.wrap .i64 x_.CS), 28, 0] : List Int) x.2  r hr) () he_1 (Canon.cons (frz_ref (e := (D.int .i64)) (l := ([(Int.tmod (IntKind.wrap .i64 ((IntKind.wrap .i64 ((IntKind.wrap .i64 (Int.tdiv (IntKind.wrap .i64 ((IntKind.wrap .i64 (28 + (IntKind.wrap .i64 (4 * (x_.Relocs.length : Int))))) + 15)) 16)) * 16)) + (x_.Bytes.length : Int))) 512), (IntKind.wrap .i64 (Int.tdiv (IntKind.wrap .i64 ((IntKind.wrap .i64 ((IntKind.wrap .i64 ((IntKind.wrap .i64 (Int.tdiv (IntKind.wrap .i64 ((IntKind.wrap .i64 (28 + (IntKind.wrap .i64 (4 * (x_.Relocs.length : Int))))) + 15)) 16)) * 16)) + (x_.Bytes.length : Int))) + 511)) 512)), (x_.Relocs.length : Int), (IntKind.wrap .i64 (Int.tdiv (IntKind.wrap .i64 ((IntKind.wrap .i64 (Int.tdiv (IntKind.wrap .i64 ((IntKind.wrap .i64 (28 + (IntKind.wrap .i64 (4 * (x_.Relocs.length : Int))))) + 15)) 16)) * 16)) 16)), x_.Min, 65535, (IntKind.wrap .i64 x_.SS), (IntKind.wrap .i64 x_.SP), 0, (IntKind.wrap .i64 x_.IP), (IntKind.wrap .i64 x_.CS), 28, 0] : List Int)) (id := [46]) (v := 0) (n := 1) (fz := false) (by kernel_rfl) (by kernel_rfl) rfl) Cz) ?_
 rintro ⟨o, s⟩ hp
 obtain ⟨ho, g_1, hk_1⟩ := hp
 have ho' : o = .exit 0 := ho
 subst ho'
 refine kB_hit <| kS_nrm <| Runs.canon _ hk_1 <| Sq <| Sq <| Ro <| Rc 1 [vi 0] <| Rk <| Runs.block ?_
 obtain ⟨e_2, he_2, h⟩ := bind_s h
 refine Runs.loop (fun x : ((List UInt8) × Int) => hansomref44_Write_l29 x_ (IntKind.wrap .i64 ((IntKind.wrap .i64 (Int.tdiv (IntKind.wrap .i64 ((IntKind.wrap .i64 (28 + (IntKind.wrap .i64 (4 * (x_.Relocs.length : Int))))) + 15)) 16)) * 16)) x.1 x.2) (fun (x : ((List UInt8) × Int)) (g : Unit) => hansomref44_Write_h29 x_ (IntKind.wrap .i64 ((IntKind.wrap .i64 (Int.tdiv (IntKind.wrap .i64 ((IntKind.wrap .i64 (28 + (IntKind.wrap .i64 (4 * (x_.Relocs.length : Int))))) + 15)) 16)) * 16)) x.1 x.2) (hansomref44_Write_P29 x_ x_ (IntKind.wrap .i64 ((IntKind.wrap .i64 (Int.tdiv (IntKind.wrap .i64 ((IntKind.wrap .i64 (28 + (IntKind.wrap .i64 (4 * (x_.Relocs.length : Int))))) + 15)) 16)) * 16))) (fun x g r hr => hansomref44_Write_l29_ok x_ x_ (IntKind.wrap .i64 ((IntKind.wrap .i64 (Int.tdiv (IntKind.wrap .i64 ((IntKind.wrap .i64 (28 + (IntKind.wrap .i64 (4 * (x_.Relocs.length : Int))))) + 15)) 16)) * 16)) x.1 x.2  r hr) () he_2 Cz ?_
 rintro ⟨o, s⟩ hp
 obtain ⟨ho, g_2, hk_2⟩ := hp
 have ho' : o = .exit 2 := ho
 subst ho'
 refine kB_hit <| kS_nrm <| Runs.canon _ hk_2 <| Sq <| Runs.block ?_
 obtain ⟨e_3, he_3, h⟩ := bind_s h
 refine Runs.loop (fun x : (List UInt8) => hansomref44_Write_l42 x_ (IntKind.wrap .i64 ((IntKind.wrap .i64 (Int.tdiv (IntKind.wrap .i64 ((IntKind.wrap .i64 (28 + (IntKind.wrap .i64 (4 * (x_.Relocs.length : Int))))) + 15)) 16)) * 16)) x) (fun (x : (List UInt8)) (g : Unit) => hansomref44_Write_h42 x_ (IntKind.wrap .i64 ((IntKind.wrap .i64 (Int.tdiv (IntKind.wrap .i64 ((IntKind.wrap .i64 (28 + (IntKind.wrap .i64 (4 * (x_.Relocs.length : Int))))) + 15)) 16)) * 16)) x) (hansomref44_Write_P42 x_ x_ (IntKind.wrap .i64 ((IntKind.wrap .i64 (Int.tdiv (IntKind.wrap .i64 ((IntKind.wrap .i64 (28 + (IntKind.wrap .i64 (4 * (x_.Relocs.length : Int))))) + 15)) 16)) * 16))) (fun x g r hr => hansomref44_Write_l42_ok x_ x_ (IntKind.wrap .i64 ((IntKind.wrap .i64 (Int.tdiv (IntKind.wrap .i64 ((IntKind.wrap .i64 (28 + (IntKind.wrap .i64 (4 * (x_.Relocs.length : Int))))) + 15)) 16)) * 16)) x  r hr) () he_3 Cz ?_
 rintro ⟨o, s⟩ hp
 obtain ⟨ho, g_3, hk_3⟩ := hp
 have ho' : o = .exit 4 := ho
 subst ho'
 refine kB_hit <| kS_nrm <| Runs.canon _ hk_3 <| Sq <| Ro <| Rc 3 [⟨.d (.str e_3), []⟩, vp [1] 0 0, ⟨.d (.sl (mY x_.Bytes)), []⟩] <| Rt (some 96) .bytesStr [] none [.d (.sl (mY x_.Bytes))] (.d (.str (b2s x_.Bytes))) [] (cut_bs _) ?_
 obtain ⟨z_1, hz_1, h⟩ := bind_s h
 refine Rt (some 97) (.bin .add) [] none [.d (.str e_3), .d (.str (b2s x_.Bytes))] (.d (.str z_1)) [] (cut_cat hz_1) <| Rc 1 [⟨.d (.str z_1), []⟩] <| Rk <| Runs.ret ?_
 cases h
 exact Fq
theorem hansomref44_Write_L (x_ : Image) (r : (List UInt8)) (h : hansomref44_Write x_ = some r) : L 30 [.d (Image.d x_)] = some (.d (.str r), [.d (Image.d x_)]) := by
 obtain ⟨p, ⟨hne, hf⟩, hr⟩ := hansomref44_Write_ok x_ r h
 obtain ⟨k, hk⟩ := run_of (F := F30) (args := [.d (Image.d x_)]) (ap := [.d (Image.d x_)]) (bx0 := updW (fun _ => none) []) rfl rfl (by kernel_rfl) ⟨p, ⟨hne, hf⟩, hr⟩
 exact lim_run (k := k) rfl hk
def bits_Paras_Q (n_ : Int) (r : Int) (p : Out × St) : Prop := (∀ i, p.1 ≠ .exit i) ∧ finF F75 [.i n_] p.2 = some (.i r, [.i n_])
theorem bits_Paras_ok (n_ : Int) (r : Int) (h : bits_Paras n_ = some r) : Runs L F75.body ⟨tmOf [.i n_] 0, updW (fun _ => none) []⟩ (bits_Paras_Q n_ r) := by
 unfold bits_Paras at h
 refine Sq <| Ro <| Rc 1 [vi 0] <| Rk <| Sq <| Sq <| Ro <| Rc 2 [vi n_, vb (decide (n_ < 1))] <| Rk ?_
 cases hb_1 : ((decide (n_ < 1)) : Bool) with
 | true =>
  replace h := ite_t hb_1 h
  refine Ct <| Sq <| Ro <| Rc 1 [vi 0] <| Rk <| Runs.ret <| kS_ret ?_
  cases h
  exact Fq
 | false =>
  replace h := ite_f hb_1 h
  refine Cf <| Runs.skip <| kS_nrm <| Sq <| Ro <| Rc 5 [vi n_, vi (IntKind.wrap .i64 (n_ - 1)), vi (IntKind.wrap .i64 (Int.tdiv (IntKind.wrap .i64 (n_ - 1)) 16)), vi (IntKind.wrap .i64 ((IntKind.wrap .i64 (Int.tdiv (IntKind.wrap .i64 (n_ - 1)) 16)) + 1)), vi (IntKind.wrap .i64 ((IntKind.wrap .i64 (Int.tdiv (IntKind.wrap .i64 (n_ - 1)) 16)) + 1))] <| Rk <| Runs.ret ?_
  cases h
  exact Fq
theorem bits_Paras_L (n_ : Int) (r : Int) (h : bits_Paras n_ = some r) : L 75 [.i n_] = some (.i r, [.i n_]) := by
 obtain ⟨p, ⟨hne, hf⟩, hr⟩ := bits_Paras_ok n_ r h
 obtain ⟨k, hk⟩ := run_of (F := F75) (args := [.i n_]) (ap := [.i n_]) (bx0 := updW (fun _ => none) []) rfl rfl (by kernel_rfl) ⟨p, ⟨hne, hf⟩, hr⟩
 exact lim_run (k := k) rfl hk
def mz_May_h14 (x1 : Image) (t31 : (List Int)) (t32 : Int) (t33 : Int) : St := ⟨tab [(1, .ptr [1] 0 0), (31, .d (.sl (List.map (D.int .i64) t31))), (32, .i t32), (33, .i t33)], tabB [([1], some (.cells [.d (.sl (mY x1.Bytes)), .d (.sl (List.map (D.int .i64) x1.Relocs)), .w x1.CS, .w x1.IP, .w x1.SS, .w x1.SP, .i x1.Min] 0))]⟩
def mz_May_h33  : St := ⟨tab [], tabB []⟩
def mz_May_Q (x_ : Image) (r : Bool) (p : Out × St) : Prop := (∀ i, p.1 ≠ .exit i) ∧ finF F34 [.d (Image.d x_)] p.2 = some (.b r, [.d (Image.d x_)])
def mz_May_P14 (x_ : Image) (x1 : Image) (t31 : (List Int)) (t32 : Int) (e : (Bool ⊕ Unit)) (p : Out × St) : Prop := match e with
 | .inl x => p.1 = .ret ∧ finF F34 [.d (Image.d x_)] p.2 = some (.b x, [.d (Image.d x_)])
 | .inr x => p.1 = .exit 0 ∧ ∃ g : Unit, Canon [] [] [] p.2 (mz_May_h33)
theorem mz_May_l14_ok (x_ : Image) (x1 : Image) (t31 : (List Int)) (t32 : Int) (t33 : Int) (r : (Lp Int (Bool ⊕ Unit))) (h : mz_May_l14 x1 t31 t32 t33 = some r) : Runs L F34l14 (mz_May_h14 x1 t31 t32 t33) (LQ [] [1, 31, 32, 33] [[1]] (fun (x : Int) (g : Unit) => mz_May_h14 x1 t31 t32 x) (mz_May_P14 x_ x1 t31 t32) r) := by
 unfold mz_May_l14 at h
 refine Sq <| Ro <| Rc 1 [vb (decide (t33 < t32))] <| Rk <| Sq ?_
 cases hb_5 : ((decide (t33 < t32)) : Bool) with
 | true =>
  replace h := ite_t hb_5 h
  refine Ct <| Runs.skip <| kS_nrm <| Sq <| Runs.block <| Sq <| Ro <| Rc 1 [vi t33] ?_
  obtain ⟨z_1, hz_1, h⟩ := bind_s h
  refine Rt (some 36) (.iaddrS 1) [] none [.d (.sl (List.map (D.int .i64) t31)), .i t33] (.elt (.int .i64 z_1) 0) [] (cut_at hz_1 (fun _ => rfl)) <| Rc 3 [vi z_1, vi t33, vi z_1] <| Rk <| Sq <| Ro <| Rc 3 [vi z_1, vb (decide (z_1 < 0)), vb (decide (z_1 < 0))] ?_
  cases hb_6 : ((decide (z_1 < 0)) : Bool) with
  | true =>
   replace h := ite_t hb_6 h
   refine Rc 22 [vn, vn, vn, vn, vn, vn, vb true, vb true, vn, vn, vn, vn, vn, vn, vn, vn, vn, vn, vn, vn, vn, vb true] <| Rk <| Ct <| Sq <| Ro <| Rc 1 [vb false] <| Rk <| Runs.ret <| kB_ret <| kS_ret ?_
   obtain rfl := sj h
   exact ⟨nofun, rfl, (by kernel_rfl)⟩
  | false =>
   replace h := ite_f hb_6 h
   refine Rc 3 [vi z_1, vp [1] 0 0, ⟨.d (.sl (mY x1.Bytes)), []⟩] <| Rt (some 44) .lenL [] none [.d (.sl (mY x1.Bytes))] (.i (x1.Bytes.length : Int)) [] (cut_len _) <| Rc 4 [vi (IntKind.wrap .i64 ((x1.Bytes.length : Int) - 2)), vb (decide (z_1 > (IntKind.wrap .i64 ((x1.Bytes.length : Int) - 2)))), vb (decide (z_1 > (IntKind.wrap .i64 ((x1.Bytes.length : Int) - 2)))), vb (decide (z_1 > (IntKind.wrap .i64 ((x1.Bytes.length : Int) - 2))))] ?_
   cases hb_7 : ((decide (z_1 > (IntKind.wrap .i64 ((x1.Bytes.length : Int) - 2)))) : Bool) with
   | true =>
    replace h := ite_t hb_7 h
    refine Rc 14 [vn, vn, vn, vn, vn, vn, vn, vn, vn, vn, vn, vn, vn, vb true] <| Rk <| Ct <| Sq <| Ro <| Rc 1 [vb false] <| Rk <| Runs.ret <| kB_ret <| kS_ret ?_
    obtain rfl := sj h
    exact ⟨nofun, rfl, (by kernel_rfl)⟩
   | false =>
    replace h := ite_f hb_7 h
    refine Rc 3 [vi t33, vb (decide (t33 > 0)), vb (decide (t33 > 0))] ?_
    cases hb_8 : ((decide (t33 > 0)) : Bool) with
    | true =>
     replace h := ite_t hb_8 h
     refine Rc 5 [vi z_1, vp [1] 0 1, ⟨.d (.sl (List.map (D.int .i64) x1.Relocs)), []⟩, vi t33, vi (IntKind.wrap .i64 (t33 - 1))] ?_
     obtain ⟨z_2, hz_2, h⟩ := bind_s h
     refine Rt (some 57) (.iaddrS 1) [] none [.d (.sl (List.map (D.int .i64) x1.Relocs)), .i (IntKind.wrap .i64 (t33 - 1))] (.elt (.int .i64 z_2) 0) [] (cut_at hz_2 (fun _ => rfl)) <| Rc 5 [vi z_2, vi (IntKind.wrap .i64 (z_1 - z_2)), vb (decide ((IntKind.wrap .i64 (z_1 - z_2)) < 2)), vb (decide ((IntKind.wrap .i64 (z_1 - z_2)) < 2)), vb (decide ((IntKind.wrap .i64 (z_1 - z_2)) < 2))] <| Rk ?_
     cases hb_9 : ((decide ((IntKind.wrap .i64 (z_1 - z_2)) < 2)) : Bool) with
     | true =>
      replace h := ite_t hb_9 h
      refine Ct <| Sq <| Ro <| Rc 1 [vb false] <| Rk <| Runs.ret <| kB_ret <| kS_ret ?_
      obtain rfl := sj h
      exact ⟨nofun, rfl, (by kernel_rfl)⟩
     | false =>
      replace h := ite_f hb_9 h
      refine Cf <| Runs.skip <| kB_nrm <| kS_nrm <| Ro <| Rc 2 [vi (IntKind.wrap .i64 (t33 + 1)), vi (IntKind.wrap .i64 (t33 + 1))] <| Rd ?_
      obtain rfl := sj h
      exact ⟨rfl, (), Cz⟩
    | false =>
     replace h := ite_f hb_8 h
     refine Rc 11 [vn, vn, vn, vn, vn, vn, vn, vn, vn, vb false, vb false] <| Rk <| Cf <| Runs.skip <| kB_nrm <| kS_nrm <| Ro <| Rc 2 [vi (IntKind.wrap .i64 (t33 + 1)), vi (IntKind.wrap .i64 (t33 + 1))] <| Rd ?_
     obtain rfl := sj h
     exact ⟨rfl, (), Cz⟩
 | false =>
  replace h := ite_f hb_5 h
  refine Cf <| Runs.exit <| kS_exit ?_
  obtain rfl := sj h
  exact ⟨nofun, rfl, (), Cz⟩
theorem mz_May_ok (x_ : Image) (r : Bool) (h : mz_May x_ = some r) : Runs L F34.body ⟨tmOf [.d (Image.d x_)] 0, updW (fun _ => none) []⟩ (mz_May_Q x_ r) := by
 unfold mz_May at h
 refine Sq <| Ro <| Rc 2 [⟨.ptr [1] 0 0, [([1], some (.cells [.d (.sl (mY x_.Bytes)), .d (.sl (List.map (D.int .i64) x_.Relocs)), .w x_.CS, .w x_.IP, .w x_.SS, .w x_.SP, .i x_.Min] 0))]⟩, vb false] <| Rk <| Sq <| Sq <| Ro <| Rc 2 [vp [1] 0 0, ⟨.d (.sl (mY x_.Bytes)), []⟩] <| Rt (some 7) .lenL [] none [.d (.sl (mY x_.Bytes))] (.i (x_.Bytes.length : Int)) [] (cut_len _) <| Rc 2 [vb (decide ((x_.Bytes.length : Int) > 655360)), vb (decide ((x_.Bytes.length : Int) > 655360))] ?_
 cases hb_1 : ((decide ((x_.Bytes.length : Int) > 655360)) : Bool) with
 | true =>
  replace h := ite_t hb_1 h
  refine Rc 20 [vn, vn, vn, vb true, vb true, vn, vn, vn, vn, vn, vn, vn, vn, vb true, vb true, vn, vn, vn, vn, vb true] <| Rk <| Ct <| Sq <| Ro <| Rc 1 [vb false] <| Rk <| Runs.ret <| kS_ret ?_
  cases h
  exact Fq
 | false =>
  replace h := ite_f hb_1 h
  refine Rc 5 [vp [1] 0 6, vi x_.Min, vb (decide (x_.Min < 0)), vb (decide (x_.Min < 0)), vb (decide (x_.Min < 0))] ?_
  cases hb_2 : ((decide (x_.Min < 0)) : Bool) with
  | true =>
   replace h := ite_t hb_2 h
   refine Rc 15 [vn, vn, vn, vn, vn, vn, vn, vn, vb true, vb true, vn, vn, vn, vn, vb true] <| Rk <| Ct <| Sq <| Ro <| Rc 1 [vb false] <| Rk <| Runs.ret <| kS_ret ?_
   cases h
   exact Fq
  | false =>
   replace h := ite_f hb_2 h
   refine Rc 4 [vp [1] 0 6, vi x_.Min, vp [1] 0 0, ⟨.d (.sl (mY x_.Bytes)), []⟩] <| Rt (some 19) .lenL [] none [.d (.sl (mY x_.Bytes))] (.i (x_.Bytes.length : Int)) [] (cut_len _) ?_
   obtain ⟨r_1, hr_1, h⟩ := bind_s h
   have hc_1 := bits_Paras_L (x_.Bytes.length : Int) r_1 hr_1
   refine Rt (some 20) (.callf 75) [] (some []) [.i (x_.Bytes.length : Int)] (.i r_1) [] (cc hc_1) <| Rc 4 [vi (IntKind.wrap .i64 (40960 - r_1)), vb (decide (x_.Min > (IntKind.wrap .i64 (40960 - r_1)))), vb (decide (x_.Min > (IntKind.wrap .i64 (40960 - r_1)))), vb (decide (x_.Min > (IntKind.wrap .i64 (40960 - r_1))))] ?_
   cases hb_3 : ((decide (x_.Min > (IntKind.wrap .i64 (40960 - r_1)))) : Bool) with
   | true =>
    replace h := ite_t hb_3 h
    refine Rc 5 [vn, vn, vn, vn, vb true] <| Rk <| Ct <| Sq <| Ro <| Rc 1 [vb false] <| Rk <| Runs.ret <| kS_ret ?_
    cases h
    exact Fq
   | false =>
    replace h := ite_f hb_3 h
    refine Rc 2 [vp [1] 0 1, ⟨.d (.sl (List.map (D.int .i64) x_.Relocs)), []⟩] <| Rt (some 27) .lenL [] none [.d (.sl (List.map (D.int .i64) x_.Relocs))] (.i (x_.Relocs.length : Int)) [] (cut_len _) <| Rc 2 [vb (decide ((x_.Relocs.length : Int) > 4000)), vb (decide ((x_.Relocs.length : Int) > 4000))] <| Rk ?_
    cases hb_4 : ((decide ((x_.Relocs.length : Int) > 4000)) : Bool) with
    | true =>
     replace h := ite_t hb_4 h
     refine Ct <| Sq <| Ro <| Rc 1 [vb false] <| Rk <| Runs.ret <| kS_ret ?_
     cases h
     exact Fq
    | false =>
     replace h := ite_f hb_4 h
     refine Cf <| Runs.skip <| kS_nrm <| Sq <| Sq <| Ro <| Rc 2 [vp [1] 0 1, ⟨.d (.sl (List.map (D.int .i64) x_.Relocs)), []⟩] <| Rt (some 32) .lenL [] none [.d (.sl (List.map (D.int .i64) x_.Relocs))] (.i (x_.Relocs.length : Int)) [] (cut_len _) <| Rc 1 [vi 0] <| Rk <| Runs.block ?_
     obtain ⟨e_1, he_1, h⟩ := bind_s h
     refine Runs.loop (fun x : Int => mz_May_l14 x_ x_.Relocs (x_.Relocs.length : Int) x) (fun (x : Int) (g : Unit) => mz_May_h14 x_ x_.Relocs (x_.Relocs.length : Int) x) (mz_May_P14 x_ x_ x_.Relocs (x_.Relocs.length : Int)) (fun x g r hr => mz_May_l14_ok x_ x_ x_.Relocs (x_.Relocs.length : Int) x  r hr) () he_1 Cz ?_
     rintro ⟨o, s⟩ hp
     cases e_1 with
     | inl e_2 =>
      obtain ⟨ho, hf⟩ := hp
      have ho' : o = .ret := ho
      subst ho'
      refine kB_ret <| kS_ret ?_
      obtain rfl := sj h
      exact ⟨Out.ret_ne, hf⟩
     | inr e_3 =>
      obtain ⟨ho, g_1, hk_1⟩ := hp
      have ho' : o = .exit 0 := ho
      subst ho'
      refine kB_hit <| kS_nrm <| Runs.canon _ hk_1 <| Sq <| Ro <| Rc 1 [vb true] <| Rk <| Runs.ret ?_
      cases h
      exact Fq
theorem mz_May_L (x_ : Image) (r : Bool) (h : mz_May x_ = some r) : L 34 [.d (Image.d x_)] = some (.b r, [.d (Image.d x_)]) := by
 obtain ⟨p, ⟨hne, hf⟩, hr⟩ := mz_May_ok x_ r h
 obtain ⟨k, hk⟩ := run_of (F := F34) (args := [.d (Image.d x_)]) (ap := [.d (Image.d x_)]) (bx0 := updW (fun _ => none) []) rfl rfl (by kernel_rfl) ⟨p, ⟨hne, hf⟩, hr⟩
 exact lim_run (k := k) rfl hk
def bits_Up_Q (n_ : Int) (step_ : Int) (r : Int) (p : Out × St) : Prop := (∀ i, p.1 ≠ .exit i) ∧ finF F104 [.i n_, .i step_] p.2 = some (.i r, [.i n_, .i step_])
theorem bits_Up_ok (n_ : Int) (step_ : Int) (r : Int) (h : bits_Up n_ step_ = some r) : Runs L F104.body ⟨tmOf [.i n_, .i step_] 0, updW (fun _ => none) []⟩ (bits_Up_Q n_ step_ r) := by
 unfold bits_Up at h
 refine Sq <| Ro <| Rc 1 [vi 0] <| Rk <| Sq <| Sq <| Ro <| Rc 3 [vi step_, vb (decide (step_ < 1)), vb (decide (step_ < 1))] ?_
 cases hb_1 : ((decide (step_ < 1)) : Bool) with
 | true =>
  replace h := ite_t hb_1 h
  refine Rc 10 [vn, vn, vb true, vb true, vn, vn, vn, vn, vn, vb true] <| Rk <| Ct <| Ro <| Rc 1 [vi 1] <| Rk <| Sq <| Ro <| Rc 4 [vi n_, vi (mxI n_ 0), vi (mnI (mxI n_ 0) 16777216), vi (mnI (mxI n_ 0) 16777216)] <| Rk <| Sq <| Ro <| Rc 8 [vi (mnI (mxI n_ 0) 16777216), vi 1, vi (IntKind.wrap .i64 ((mnI (mxI n_ 0) 16777216) + 1)), vi (IntKind.wrap .i64 ((IntKind.wrap .i64 ((mnI (mxI n_ 0) 16777216) + 1)) - 1)), vi 1, vi (IntKind.wrap .i64 (1 - 1)), vi (bitsOp .andNot .i64 (IntKind.wrap .i64 ((IntKind.wrap .i64 ((mnI (mxI n_ 0) 16777216) + 1)) - 1)) (IntKind.wrap .i64 (1 - 1))), vi (bitsOp .andNot .i64 (IntKind.wrap .i64 ((IntKind.wrap .i64 ((mnI (mxI n_ 0) 16777216) + 1)) - 1)) (IntKind.wrap .i64 (1 - 1)))] <| Rk <| Runs.ret ?_
  cases h
  exact Fq
 | false =>
  replace h := ite_f hb_1 h
  refine Rc 4 [vi step_, vb (decide (step_ > 4096)), vb (decide (step_ > 4096)), vb (decide (step_ > 4096))] ?_
  cases hb_2 : ((decide (step_ > 4096)) : Bool) with
  | true =>
   replace h := ite_t hb_2 h
   refine Rc 6 [vn, vn, vn, vn, vn, vb true] <| Rk <| Ct <| Ro <| Rc 1 [vi 1] <| Rk <| Sq <| Ro <| Rc 4 [vi n_, vi (mxI n_ 0), vi (mnI (mxI n_ 0) 16777216), vi (mnI (mxI n_ 0) 16777216)] <| Rk <| Sq <| Ro <| Rc 8 [vi (mnI (mxI n_ 0) 16777216), vi 1, vi (IntKind.wrap .i64 ((mnI (mxI n_ 0) 16777216) + 1)), vi (IntKind.wrap .i64 ((IntKind.wrap .i64 ((mnI (mxI n_ 0) 16777216) + 1)) - 1)), vi 1, vi (IntKind.wrap .i64 (1 - 1)), vi (bitsOp .andNot .i64 (IntKind.wrap .i64 ((IntKind.wrap .i64 ((mnI (mxI n_ 0) 16777216) + 1)) - 1)) (IntKind.wrap .i64 (1 - 1))), vi (bitsOp .andNot .i64 (IntKind.wrap .i64 ((IntKind.wrap .i64 ((mnI (mxI n_ 0) 16777216) + 1)) - 1)) (IntKind.wrap .i64 (1 - 1)))] <| Rk <| Runs.ret ?_
   cases h
   exact Fq
  | false =>
   replace h := ite_f hb_2 h
   refine Rc 6 [vi step_, vi step_, vi (IntKind.wrap .i64 (step_ - 1)), vi (bitsOp .and .i64 step_ (IntKind.wrap .i64 (step_ - 1))), vb ((bitsOp .and .i64 step_ (IntKind.wrap .i64 (step_ - 1))) != 0), vb ((bitsOp .and .i64 step_ (IntKind.wrap .i64 (step_ - 1))) != 0)] <| Rk ?_
   cases hb_3 : (((bitsOp .and .i64 step_ (IntKind.wrap .i64 (step_ - 1))) != 0) : Bool) with
   | true =>
    replace h := ite_t hb_3 h
    refine Ct <| Ro <| Rc 1 [vi 1] <| Rk <| Sq <| Ro <| Rc 4 [vi n_, vi (mxI n_ 0), vi (mnI (mxI n_ 0) 16777216), vi (mnI (mxI n_ 0) 16777216)] <| Rk <| Sq <| Ro <| Rc 8 [vi (mnI (mxI n_ 0) 16777216), vi 1, vi (IntKind.wrap .i64 ((mnI (mxI n_ 0) 16777216) + 1)), vi (IntKind.wrap .i64 ((IntKind.wrap .i64 ((mnI (mxI n_ 0) 16777216) + 1)) - 1)), vi 1, vi (IntKind.wrap .i64 (1 - 1)), vi (bitsOp .andNot .i64 (IntKind.wrap .i64 ((IntKind.wrap .i64 ((mnI (mxI n_ 0) 16777216) + 1)) - 1)) (IntKind.wrap .i64 (1 - 1))), vi (bitsOp .andNot .i64 (IntKind.wrap .i64 ((IntKind.wrap .i64 ((mnI (mxI n_ 0) 16777216) + 1)) - 1)) (IntKind.wrap .i64 (1 - 1)))] <| Rk <| Runs.ret ?_
    cases h
    exact Fq
   | false =>
    replace h := ite_f hb_3 h
    refine Cf <| Runs.skip <| kS_nrm <| Sq <| Ro <| Rc 4 [vi n_, vi (mxI n_ 0), vi (mnI (mxI n_ 0) 16777216), vi (mnI (mxI n_ 0) 16777216)] <| Rk <| Sq <| Ro <| Rc 8 [vi (mnI (mxI n_ 0) 16777216), vi step_, vi (IntKind.wrap .i64 ((mnI (mxI n_ 0) 16777216) + step_)), vi (IntKind.wrap .i64 ((IntKind.wrap .i64 ((mnI (mxI n_ 0) 16777216) + step_)) - 1)), vi step_, vi (IntKind.wrap .i64 (step_ - 1)), vi (bitsOp .andNot .i64 (IntKind.wrap .i64 ((IntKind.wrap .i64 ((mnI (mxI n_ 0) 16777216) + step_)) - 1)) (IntKind.wrap .i64 (step_ - 1))), vi (bitsOp .andNot .i64 (IntKind.wrap .i64 ((IntKind.wrap .i64 ((mnI (mxI n_ 0) 16777216) + step_)) - 1)) (IntKind.wrap .i64 (step_ - 1)))] <| Rk <| Runs.ret ?_
    cases h
    exact Fq
theorem bits_Up_L (n_ : Int) (step_ : Int) (r : Int) (h : bits_Up n_ step_ = some r) : L 104 [.i n_, .i step_] = some (.i r, [.i n_, .i step_]) := by
 obtain ⟨p, ⟨hne, hf⟩, hr⟩ := bits_Up_ok n_ step_ r h
 obtain ⟨k, hk⟩ := run_of (F := F104) (args := [.i n_, .i step_]) (ap := [.i n_, .i step_]) (bx0 := updW (fun _ => none) []) rfl rfl (by kernel_rfl) ⟨p, ⟨hne, hf⟩, hr⟩
 exact lim_run (k := k) rfl hk
def mz_head_Q (relocs_ : Int) (r : Int) (p : Out × St) : Prop := (∀ i, p.1 ≠ .exit i) ∧ finF F70 [.i relocs_] p.2 = some (.i r, [.i relocs_])
theorem mz_head_ok (relocs_ : Int) (r : Int) (h : mz_head relocs_ = some r) : Runs L F70.body ⟨tmOf [.i relocs_] 0, updW (fun _ => none) []⟩ (mz_head_Q relocs_ r) := by
 unfold mz_head at h
 refine Sq <| Ro <| Rc 1 [vi 0] <| Rk <| Sq <| Ro <| Rc 3 [vi relocs_, vi (IntKind.wrap .i64 (4 * relocs_)), vi (IntKind.wrap .i64 (28 + (IntKind.wrap .i64 (4 * relocs_))))] ?_
 obtain ⟨r_1, hr_1, h⟩ := bind_s h
 have hc_1 := bits_Up_L (IntKind.wrap .i64 (28 + (IntKind.wrap .i64 (4 * relocs_)))) 16 r_1 hr_1
 refine Rt (some 6) (.callf 104) [] none [.i (IntKind.wrap .i64 (28 + (IntKind.wrap .i64 (4 * relocs_)))), .i 16] (.i r_1) [] (cc hc_1) <| Rc 1 [vi r_1] <| Rk <| Runs.ret ?_
 cases h
 exact Fq
theorem mz_head_L (relocs_ : Int) (r : Int) (h : mz_head relocs_ = some r) : L 70 [.i relocs_] = some (.i r, [.i relocs_]) := by
 obtain ⟨p, ⟨hne, hf⟩, hr⟩ := mz_head_ok relocs_ r h
 obtain ⟨k, hk⟩ := run_of (F := F70) (args := [.i relocs_]) (ap := [.i relocs_]) (bx0 := updW (fun _ => none) []) rfl rfl (by kernel_rfl) ⟨p, ⟨hne, hf⟩, hr⟩
 exact lim_run (k := k) rfl hk
def bits_Low_Q (w_ : Int) (r : Int) (p : Out × St) : Prop := (∀ i, p.1 ≠ .exit i) ∧ finF F100 [.w w_] p.2 = some (.y r, [.w w_])
theorem bits_Low_ok (w_ : Int) (r : Int) (h : bits_Low w_ = some r) : Runs L F100.body ⟨tmOf [.w w_] 0, updW (fun _ => none) []⟩ (bits_Low_Q w_ r) := by
 unfold bits_Low at h
 refine Sq <| Ro <| Rc 1 [vy 0] <| Rk <| Sq <| Ro <| Rc 3 [vw w_, vy (IntKind.wrap .u8 w_), vy (IntKind.wrap .u8 w_)] <| Rk <| Runs.ret ?_
 cases h
 exact Fq
theorem bits_Low_L (w_ : Int) (r : Int) (h : bits_Low w_ = some r) : L 100 [.w w_] = some (.y r, [.w w_]) := by
 obtain ⟨p, ⟨hne, hf⟩, hr⟩ := bits_Low_ok w_ r h
 obtain ⟨k, hk⟩ := run_of (F := F100) (args := [.w w_]) (ap := [.w w_]) (bx0 := updW (fun _ => none) []) rfl rfl (by kernel_rfl) ⟨p, ⟨hne, hf⟩, hr⟩
 exact lim_run (k := k) rfl hk
def bits_High_Q (w_ : Int) (r : Int) (p : Out × St) : Prop := (∀ i, p.1 ≠ .exit i) ∧ finF F101 [.w w_] p.2 = some (.y r, [.w w_])
theorem bits_High_ok (w_ : Int) (r : Int) (h : bits_High w_ = some r) : Runs L F101.body ⟨tmOf [.w w_] 0, updW (fun _ => none) []⟩ (bits_High_Q w_ r) := by
 unfold bits_High at h
 refine Sq <| Ro <| Rc 1 [vy 0] <| Rk <| Sq <| Ro <| Rc 4 [vw w_, vw (shrI .u16 w_ 8), vy (IntKind.wrap .u8 (shrI .u16 w_ 8)), vy (IntKind.wrap .u8 (shrI .u16 w_ 8))] <| Rk <| Runs.ret ?_
 cases h
 exact Fq
theorem bits_High_L (w_ : Int) (r : Int) (h : bits_High w_ = some r) : L 101 [.w w_] = some (.y r, [.w w_]) := by
 obtain ⟨p, ⟨hne, hf⟩, hr⟩ := bits_High_ok w_ r h
 obtain ⟨k, hk⟩ := run_of (F := F101) (args := [.w w_]) (ap := [.w w_]) (bx0 := updW (fun _ => none) []) rfl rfl (by kernel_rfl) ⟨p, ⟨hne, hf⟩, hr⟩
 exact lim_run (k := k) rfl hk
def index_Two_Q (w_ : Int) (r : (List Int)) (p : Out × St) : Prop := (∀ i, p.1 ≠ .exit i) ∧ finF F62 [.w w_] p.2 = some (.d (.sl (mY r)), [.w w_])
theorem index_Two_ok (w_ : Int) (r : (List Int)) (h : index_Two w_ = some r) : Runs L F62.body ⟨tmOf [.w w_] 0, updW (fun _ => none) []⟩ (index_Two_Q w_ r) := by
 unfold index_Two at h
 refine Sq <| Ro <| Rc 1 [⟨.nils, []⟩] <| Rk <| Sq <| Ro <| Rc 1 [vw w_] ?_
 obtain ⟨r_1, hr_1, h⟩ := bind_s h
 have hc_1 := bits_Low_L w_ r_1 hr_1
 refine Rt (some 4) (.callf 100) [] none [.w w_] (.y r_1) [] (cc hc_1) <| Rc 1 [vw w_] ?_
 obtain ⟨r_2, hr_2, h⟩ := bind_s h
 have hc_2 := bits_High_L w_ r_2 hr_2
 refine Rt (some 6) (.callf 101) [] none [.w w_] (.y r_2) [] (cc hc_2) <| Rc 2 [⟨.ref [7] 0 0 (mY ([r_1, r_2] : List Int)).length 1, [([7], some (.arr (mY ([r_1, r_2] : List Int)) 0 false))]⟩, ⟨.ref [7] 0 0 (mY ([r_1, r_2] : List Int)).length 1, []⟩] <| Rk <| Sq <| Runs.gcons (frz_ref (e := (D.int .u8)) (l := ([r_1, r_2] : List Int)) (id := [7]) (v := 0) (n := 1) (fz := false) (by kernel_rfl) (by kernel_rfl) rfl) <| Runs.gnil <| kS_nrm <| Runs.ret ?_
 cases h
 exact Fq
theorem index_Two_L (w_ : Int) (r : (List Int)) (h : index_Two w_ = some r) : L 62 [.w w_] = some (.d (.sl (mY r)), [.w w_]) := by
 obtain ⟨p, ⟨hne, hf⟩, hr⟩ := index_Two_ok w_ r h
 obtain ⟨k, hk⟩ := run_of (F := F62) (args := [.w w_]) (ap := [.w w_]) (bx0 := updW (fun _ => none) []) rfl rfl (by kernel_rfl) ⟨p, ⟨hne, hf⟩, hr⟩
 exact lim_run (k := k) rfl hk
def bits_Normal_Q (at_ : Int) (r : (Int × Int)) (p : Out × St) : Prop := (∀ i, p.1 ≠ .exit i) ∧ finF F71 [.u at_] p.2 = some (.tup [.w r.1, .w r.2], [.u at_])
theorem bits_Normal_ok (at_ : Int) (r : (Int × Int)) (h : bits_Normal at_ = some r) : Runs L F71.body ⟨tmOf [.u at_] 0, updW (fun _ => none) []⟩ (bits_Normal_Q at_ r) := by
 unfold bits_Normal at h
 refine Sq <| Ro <| Rc 2 [vw 0, vw 0] <| Rk <| Sq <| Ro <| Rc 3 [vu at_, vu (bitsOp .and .u32 at_ 1048575), vu (bitsOp .and .u32 at_ 1048575)] <| Rk <| Sq <| Ro <| Rc 8 [vu (bitsOp .and .u32 at_ 1048575), vu (shrI .u32 (bitsOp .and .u32 at_ 1048575) 4), vw (IntKind.wrap .u16 (shrI .u32 (bitsOp .and .u32 at_ 1048575) 4)), vu (bitsOp .and .u32 at_ 1048575), vu (bitsOp .and .u32 (bitsOp .and .u32 at_ 1048575) 15), vw (IntKind.wrap .u16 (bitsOp .and .u32 (bitsOp .and .u32 at_ 1048575) 15)), vw (IntKind.wrap .u16 (shrI .u32 (bitsOp .and .u32 at_ 1048575) 4)), vw (IntKind.wrap .u16 (bitsOp .and .u32 (bitsOp .and .u32 at_ 1048575) 15))] <| Rk <| Runs.ret ?_
 cases h
 exact Fq
theorem bits_Normal_L (at_ : Int) (r : (Int × Int)) (h : bits_Normal at_ = some r) : L 71 [.u at_] = some (.tup [.w r.1, .w r.2], [.u at_]) := by
 obtain ⟨p, ⟨hne, hf⟩, hr⟩ := bits_Normal_ok at_ r h
 obtain ⟨k, hk⟩ := run_of (F := F71) (args := [.u at_]) (ap := [.u at_]) (bx0 := updW (fun _ => none) []) rfl rfl (by kernel_rfl) ⟨p, ⟨hne, hf⟩, hr⟩
 exact lim_run (k := k) rfl hk
def mz_Write_h22 (x1 : Image) (b_53 : (List Int)) (n4 : Int) (t54 : (List Int)) (t55 : Int) (t56 : Int) (v_53 : Nat) : St := ⟨tab [(1, .ptr [1] 0 0), (4, .i n4), (7, .ref [53] v_53 0 (mY b_53).length 1), (54, .d (.sl (List.map (D.int .u16) t54))), (55, .i t55), (56, .i t56)], tabB [([1], some (.cells [.d (.sl (mY x1.Bytes)), .d (.sl (List.map (D.int .i64) x1.Relocs)), .w x1.CS, .w x1.IP, .w x1.SS, .w x1.SP, .i x1.Min] 0)), ([53], some (.arr (mY b_53) v_53 false))]⟩
def mz_Write_h35 (x1 : Image) (b_53 : (List Int)) (n4 : Int) (v_53 : Nat) : St := ⟨tab [(1, .ptr [1] 0 0), (4, .i n4), (7, .ref [53] v_53 0 (mY b_53).length 1)], tabB [([1], some (.cells [.d (.sl (mY x1.Bytes)), .d (.sl (List.map (D.int .i64) x1.Relocs)), .w x1.CS, .w x1.IP, .w x1.SS, .w x1.SP, .i x1.Min] 0)), ([53], some (.arr (mY b_53) v_53 false))]⟩
def mz_Write_h39 (x1 : Image) (b_53 : (List Int)) (n4 : Int) (t66 : (List Int)) (t67 : Int) (t68 : Int) (v_53 : Nat) : St := ⟨tab [(1, .ptr [1] 0 0), (4, .i n4), (7, .ref [53] v_53 0 (mY b_53).length 1), (66, .d (.sl (List.map (D.int .i64) t66))), (67, .i t67), (68, .i t68)], tabB [([1], some (.cells [.d (.sl (mY x1.Bytes)), .d (.sl (List.map (D.int .i64) x1.Relocs)), .w x1.CS, .w x1.IP, .w x1.SS, .w x1.SP, .i x1.Min] 0)), ([53], some (.arr (mY b_53) v_53 false))]⟩
def mz_Write_h54 (x1 : Image) (b_53 : (List Int)) (n4 : Int) (v_53 : Nat) : St := ⟨tab [(1, .ptr [1] 0 0), (4, .i n4), (7, .ref [53] v_53 0 (mY b_53).length 1)], tabB [([1], some (.cells [.d (.sl (mY x1.Bytes)), .d (.sl (List.map (D.int .i64) x1.Relocs)), .w x1.CS, .w x1.IP, .w x1.SS, .w x1.SP, .i x1.Min] 0)), ([53], some (.arr (mY b_53) v_53 false))]⟩
def mz_Write_Q (x_ : Image) (r : ((List Int) × Int)) (p : Out × St) : Prop := (∀ i, p.1 ≠ .exit i) ∧ finF F31 [.d (Image.d x_)] p.2 = some (.tup [.d (.sl (mY r.1)), .i r.2], [.d (Image.d x_)])
def mz_Write_P22 (x_ : Image) (x1 : Image) (n4 : Int) (t54 : (List Int)) (t55 : Int) (e : (List Int)) (p : Out × St) : Prop := p.1 = .exit 0 ∧ ∃ g : Nat, Canon [] [1, 4, 7] [[1], [53]] p.2 (mz_Write_h35 x1 e n4 g)
def mz_Write_P39 (x_ : Image) (x1 : Image) (n4 : Int) (t66 : (List Int)) (t67 : Int) (e : (List Int)) (p : Out × St) : Prop := p.1 = .exit 2 ∧ ∃ g : Nat, Canon [] [1, 4, 7] [[1], [53]] p.2 (mz_Write_h54 x1 e n4 g)
theorem mz_Write_l22_ok (x_ : Image) (x1 : Image) (b_53 : (List Int)) (n4 : Int) (t54 : (List Int)) (t55 : Int) (t56 : Int) (v_53 : Nat) (r : (Lp ((List Int) × Int) (List Int))) (h : mz_Write_l22 x1 b_53 n4 t54 t55 t56 = some r) : Runs L F31l22 (mz_Write_h22 x1 b_53 n4 t54 t55 t56 v_53) (LQ [.frz 54] [1, 4, 7, 54, 55, 56] [[1], [53]] (fun (x : ((List Int) × Int)) (g : Nat) => mz_Write_h22 x1 x.1 n4 t54 t55 x.2 g) (mz_Write_P22 x_ x1 n4 t54 t55) r) := by
 unfold mz_Write_l22 at h
 refine Sq <| Ro <| Rc 1 [vb (decide (t56 < t55))] <| Rk <| Sq ?_
 cases hb_2 : ((decide (t56 < t55)) : Bool) with
 | true =>
  replace h := ite_t hb_2 h
  refine Ct <| Runs.skip <| kS_nrm <| Sq <| Runs.block <| Sq <| Ro ?_
  obtain ⟨z_1, hz_1, h⟩ := bind_s h
  refine Rt (some 58) (.iaddrS 1) [] none [.d (.sl (List.map (D.int .u16) t54)), .i t56] (.elt (.int .u16 z_1) 0) [] (cut_at hz_1 (fun _ => rfl)) <| Rc 2 [vw z_1, vw z_1] <| Rk <| Ro <| Rc 2 [⟨.ref [53] v_53 0 (mY b_53).length 1, []⟩, vw z_1] ?_
  obtain ⟨r_3, hr_3, h⟩ := bind_s h
  have hc_3 := index_Two_L z_1 r_3 hr_3
  refine Rt (some 62) (.callf 62) [] none [.w z_1] (.d (.sl (mY r_3))) [] (cc hc_3) ?_
  obtain ⟨z_2, hz_2, h⟩ := bind_s h
  refine Rt (some 63) (.append 1 1 false) [] none [.ref [53] v_53 0 (mY b_53).length 1, .d (.sl (mY r_3))] (.ref [53] (v_53 + 1) 0 (mY z_2).length 1) [([53], some (.arr (mY z_2) (v_53 + 1) false))] (cut_appR (e := (D.int .u8)) (l := b_53) (fz := false) (ws := []) (ap_data _) (fun _ => rfl) hz_2 (by kernel_rfl) (by kernel_rfl) rfl) <| Rc 1 [⟨.ref [53] (v_53 + 1) 0 (mY z_2).length 1, []⟩] <| Rd <| kB_nrm <| kS_nrm <| Ro <| Rc 2 [vi (IntKind.wrap .i64 (t56 + 1)), vi (IntKind.wrap .i64 (t56 + 1))] <| Rd ?_
  obtain rfl := sj h
  exact ⟨rfl, (v_53 + 1), (Canon.same (by kernel_rfl) Cz)⟩
 | false =>
  replace h := ite_f hb_2 h
  refine Cf <| Runs.exit <| kS_exit ?_
  obtain rfl := sj h
  exact ⟨nofun, rfl, v_53, Cz⟩
theorem mz_Write_l39_ok (x_ : Image) (x1 : Image) (b_53 : (List Int)) (n4 : Int) (t66 : (List Int)) (t67 : Int) (t68 : Int) (v_53 : Nat) (r : (Lp ((List Int) × Int) (List Int))) (h : mz_Write_l39 x1 b_53 n4 t66 t67 t68 = some r) : Runs L F31l39 (mz_Write_h39 x1 b_53 n4 t66 t67 t68 v_53) (LQ [] [1, 4, 7, 66, 67, 68] [[1], [53]] (fun (x : ((List Int) × Int)) (g : Nat) => mz_Write_h39 x1 x.1 n4 t66 t67 x.2 g) (mz_Write_P39 x_ x1 n4 t66 t67) r) := by
 unfold mz_Write_l39 at h
 refine Sq <| Ro <| Rc 1 [vb (decide (t68 < t67))] <| Rk <| Sq ?_
 cases hb_2 : ((decide (t68 < t67)) : Bool) with
 | true =>
  replace h := ite_t hb_2 h
  refine Ct <| Runs.skip <| kS_nrm <| Sq <| Runs.block <| Sq <| Ro ?_
  obtain ⟨z_1, hz_1, h⟩ := bind_s h
  refine Rt (some 70) (.iaddrS 1) [] none [.d (.sl (List.map (D.int .i64) t66)), .i t68] (.elt (.int .i64 z_1) 0) [] (cut_at hz_1 (fun _ => rfl)) <| Rc 2 [vi z_1, vi z_1] <| Rk <| Sq <| Ro <| Rc 2 [vi z_1, vu (IntKind.wrap .u32 z_1)] ?_
  obtain ⟨r_3, hr_3, h⟩ := bind_s h
  have hc_3 := bits_Normal_L (IntKind.wrap .u32 z_1) r_3 hr_3
  refine Rt (some 75) (.callf 71) [] none [.u (IntKind.wrap .u32 z_1)] (.tup [.w r_3.1, .w r_3.2]) [] (cc hc_3) <| Rc 5 [⟨.tup [.w r_3.1, .w r_3.2], []⟩, vw r_3.1, vw r_3.2, vw r_3.1, vw r_3.2] <| Rk <| Ro <| Rc 2 [⟨.ref [53] v_53 0 (mY b_53).length 1, []⟩, vw r_3.2] ?_
  obtain ⟨r_4, hr_4, h⟩ := bind_s h
  have hc_4 := index_Two_L r_3.2 r_4 hr_4
  refine Rt (some 80) (.callf 62) [] none [.w r_3.2] (.d (.sl (mY r_4))) [] (cc hc_4) ?_
  obtain ⟨z_2, hz_2, h⟩ := bind_s h
  refine Rt (some 81) (.append 1 1 false) [] none [.ref [53] v_53 0 (mY b_53).length 1, .d (.sl (mY r_4))] (.ref [53] (v_53 + 1) 0 (mY z_2).length 1) [([53], some (.arr (mY z_2) (v_53 + 1) false))] (cut_appR (e := (D.int .u8)) (l := b_53) (fz := false) (ws := []) (ap_data _) (fun _ => rfl) hz_2 (by kernel_rfl) (by kernel_rfl) rfl) <| Rc 1 [vw r_3.1] ?_
  obtain ⟨r_5, hr_5, h⟩ := bind_s h
  have hc_5 := index_Two_L r_3.1 r_5 hr_5
  refine Rt (some 83) (.callf 62) [] none [.w r_3.1] (.d (.sl (mY r_5))) [] (cc hc_5) ?_
  obtain ⟨z_3, hz_3, h⟩ := bind_s h
  refine Rt (some 84) (.append 1 1 false) [] none [.ref [53] (v_53 + 1) 0 (mY z_2).length 1, .d (.sl (mY r_5))] (.ref [53] ((v_53 + 1) + 1) 0 (mY z_3).length 1) [([53], some (.arr (mY z_3) ((v_53 + 1) + 1) false))] (cut_appR (e := (D.int .u8)) (l := z_2) (fz := false) (ws := []) (ap_data _) (fun _ => rfl) hz_3 (by kernel_rfl) (by kernel_rfl) rfl) <| Rc 1 [⟨.ref [53] ((v_53 + 1) + 1) 0 (mY z_3).length 1, []⟩] <| Rd <| kB_nrm <| kS_nrm <| Ro <| Rc 2 [vi (IntKind.wrap .i64 (t68 + 1)), vi (IntKind.wrap .i64 (t68 + 1))] <| Rd ?_
  obtain rfl := sj h
  exact ⟨rfl, ((v_53 + 1) + 1), Cz⟩
 | false =>
  replace h := ite_f hb_2 h
  refine Cf <| Runs.exit <| kS_exit ?_
  obtain rfl := sj h
  exact ⟨nofun, rfl, v_53, Cz⟩
theorem mz_Write_ok (x_ : Image) (r : ((List Int) × Int)) (h : mz_Write x_ = some r) : Runs L F31.body ⟨tmOf [.d (Image.d x_)] 0, updW (fun _ => none) []⟩ (mz_Write_Q x_ r) := by
 unfold mz_Write at h
 refine Sq <| Ro <| Rc 3 [⟨.ptr [1] 0 0, [([1], some (.cells [.d (.sl (mY x_.Bytes)), .d (.sl (List.map (D.int .i64) x_.Relocs)), .w x_.CS, .w x_.IP, .w x_.SS, .w x_.SP, .i x_.Min] 0))]⟩, ⟨.nils, []⟩, vi 0] <| Rk <| Sq <| Sq <| Ro <| Rc 1 [⟨.d (Image.d x_), []⟩] ?_
 obtain ⟨r_1, hr_1, h⟩ := bind_s h
 have hc_1 := mz_May_L x_ r_1 hr_1
 refine Rt (some 15) (.callf 34) [] none [.d (Image.d x_)] (.b r_1) [] (cc hc_1) <| Rc 1 [vb (!r_1)] <| Rk ?_
 cases hb_1 : ((!r_1) : Bool) with
 | true =>
  replace h := ite_t hb_1 h
  refine Ct <| Sq <| Ro <| Rc 2 [⟨.nils, []⟩, vi 1] <| Rk <| Sq <| Runs.gcons (frz_nil (D.int .u8) (by kernel_rfl)) <| Runs.gnil <| kS_nrm <| Runs.ret <| kS_ret ?_
  cases h
  exact Fq
 | false =>
  replace h := ite_f hb_1 h
  refine Cf <| Runs.skip <| kS_nrm <| Sq <| Ro <| Rc 2 [vp [1] 0 1, ⟨.d (.sl (List.map (D.int .i64) x_.Relocs)), []⟩] <| Rt (some 19) .lenL [] none [.d (.sl (List.map (D.int .i64) x_.Relocs))] (.i (x_.Relocs.length : Int)) [] (cut_len _) ?_
  obtain ⟨r_2, hr_2, h⟩ := bind_s h
  have hc_2 := mz_head_L (x_.Relocs.length : Int) r_2 hr_2
  refine Rt (some 20) (.callf 70) [] none [.i (x_.Relocs.length : Int)] (.i r_2) [] (cc hc_2) <| Rc 1 [vi r_2] <| Rk <| Sq <| Ro <| Rc 3 [vi r_2, vp [1] 0 0, ⟨.d (.sl (mY x_.Bytes)), []⟩] <| Rt (some 24) .lenL [] none [.d (.sl (mY x_.Bytes))] (.i (x_.Bytes.length : Int)) [] (cut_len _) <| Rc 2 [vi (IntKind.wrap .i64 (r_2 + (x_.Bytes.length : Int))), vi (IntKind.wrap .i64 (r_2 + (x_.Bytes.length : Int)))] <| Rk <| Sq <| Ro <| Rc 10 [vi (IntKind.wrap .i64 (r_2 + (x_.Bytes.length : Int))), vi (Int.tmod (IntKind.wrap .i64 (r_2 + (x_.Bytes.length : Int))) 512), vw (IntKind.wrap .u16 (Int.tmod (IntKind.wrap .i64 (r_2 + (x_.Bytes.length : Int))) 512)), vi (IntKind.wrap .i64 (r_2 + (x_.Bytes.length : Int))), vi (IntKind.wrap .i64 ((IntKind.wrap .i64 (r_2 + (x_.Bytes.length : Int))) + 512)), vi (IntKind.wrap .i64 ((IntKind.wrap .i64 ((IntKind.wrap .i64 (r_2 + (x_.Bytes.length : Int))) + 512)) - 1)), vi (IntKind.wrap .i64 (Int.tdiv (IntKind.wrap .i64 ((IntKind.wrap .i64 ((IntKind.wrap .i64 (r_2 + (x_.Bytes.length : Int))) + 512)) - 1)) 512)), vw (IntKind.wrap .u16 (IntKind.wrap .i64 (Int.tdiv (IntKind.wrap .i64 ((IntKind.wrap .i64 ((IntKind.wrap .i64 (r_2 + (x_.Bytes.length : Int))) + 512)) - 1)) 512))), vp [1] 0 1, ⟨.d (.sl (List.map (D.int .i64) x_.Relocs)), []⟩] ?_
  refine Rt (some 36) .lenL [] none [.d (.sl (List.map (D.int .i64) x_.Relocs))] (.i (x_.Relocs.length : Int)) [] (cut_len _) <| Rc 17 [vw (IntKind.wrap .u16 (x_.Relocs.length : Int)), vi r_2, vi (IntKind.wrap .i64 (Int.tdiv r_2 16)), vw (IntKind.wrap .u16 (IntKind.wrap .i64 (Int.tdiv r_2 16))), vp [1] 0 6, vi x_.Min, vw (IntKind.wrap .u16 x_.Min), vp [1] 0 4, vw x_.SS, vp [1] 0 5, vw x_.SP, vp [1] 0 3, vw x_.IP, vp [1] 0 2, vw x_.CS, ⟨.ref [52] 0 0 (List.map (D.int .u16) ([(IntKind.wrap .u16 (Int.tmod (IntKind.wrap .i64 (r_2 + (x_.Bytes.length : Int))) 512)), (IntKind.wrap .u16 (IntKind.wrap .i64 (Int.tdiv (IntKind.wrap .i64 ((IntKind.wrap .i64 ((IntKind.wrap .i64 (r_2 + (x_.Bytes.length : Int))) + 512)) - 1)) 512))), (IntKind.wrap .u16 (x_.Relocs.length : Int)), (IntKind.wrap .u16 (IntKind.wrap .i64 (Int.tdiv r_2 16))), (IntKind.wrap .u16 x_.Min), 65535, x_.SS, x_.SP, 0, x_.IP, x_.CS, 28, 0] : List Int)).length 1, [([52], some (.arr (List.map (D.int .u16) ([(IntKind.wrap .u16 (Int.tmod (IntKind.wrap .i64 (r_2 + (x_.Bytes.length : Int))) 512)), (IntKind.wrap .u16 (IntKind.wrap .i64 (Int.tdiv (IntKind.wrap .i64 ((IntKind.wrap .i64 ((IntKind.wrap .i64 (r_2 + (x_.Bytes.length : Int))) + 512)) - 1)) 512))), (IntKind.wrap .u16 (x_.Relocs.length : Int)), (IntKind.wrap .u16 (IntKind.wrap .i64 (Int.tdiv r_2 16))), (IntKind.wrap .u16 x_.Min), 65535, x_.SS, x_.SP, 0, x_.IP, x_.CS, 28, 0] : List Int)) 0 false))]⟩, ⟨.ref [52] 0 0 (List.map (D.int .u16) ([(IntKind.wrap .u16 (Int.tmod (IntKind.wrap .i64 (r_2 + (x_.Bytes.length : Int))) 512)), (IntKind.wrap .u16 (IntKind.wrap .i64 (Int.tdiv (IntKind.wrap .i64 ((IntKind.wrap .i64 ((IntKind.wrap .i64 (r_2 + (x_.Bytes.length : Int))) + 512)) - 1)) 512))), (IntKind.wrap .u16 (x_.Relocs.length : Int)), (IntKind.wrap .u16 (IntKind.wrap .i64 (Int.tdiv r_2 16))), (IntKind.wrap .u16 x_.Min), 65535, x_.SS, x_.SP, 0, x_.IP, x_.CS, 28, 0] : List Int)).length 1, []⟩] ?_
  refine Rk <| Sq <| Ro <| Rc 2 [⟨.ref [53] 0 0 (mY ([77, 90] : List Int)).length 1, [([53], some (.arr (mY ([77, 90] : List Int)) 0 false))]⟩, ⟨.ref [53] 0 0 (mY ([77, 90] : List Int)).length 1, []⟩] <| Rk <| Sq <| Sq <| Ro <| Rc 1 [⟨.ref [52] 0 0 (List.map (D.int .u16) ([(IntKind.wrap .u16 (Int.tmod (IntKind.wrap .i64 (r_2 + (x_.Bytes.length : Int))) 512)), (IntKind.wrap .u16 (IntKind.wrap .i64 (Int.tdiv (IntKind.wrap .i64 ((IntKind.wrap .i64 ((IntKind.wrap .i64 (r_2 + (x_.Bytes.length : Int))) + 512)) - 1)) 512))), (IntKind.wrap .u16 (x_.Relocs.length : Int)), (IntKind.wrap .u16 (IntKind.wrap .i64 (Int.tdiv r_2 16))), (IntKind.wrap .u16 x_.Min), 65535, x_.SS, x_.SP, 0, x_.IP, x_.CS, 28, 0] : List Int)).length 1, []⟩] <| Rt (some 55) .lenL [] none [.ref [52] 0 0 (List.map (D.int .u16) ([(IntKind.wrap .u16 (Int.tmod (IntKind.wrap .i64 (r_2 + (x_.Bytes.length : Int))) 512)), (IntKind.wrap .u16 (IntKind.wrap .i64 (Int.tdiv (IntKind.wrap .i64 ((IntKind.wrap .i64 ((IntKind.wrap .i64 (r_2 + (x_.Bytes.length : Int))) + 512)) - 1)) 512))), (IntKind.wrap .u16 (x_.Relocs.length : Int)), (IntKind.wrap .u16 (IntKind.wrap .i64 (Int.tdiv r_2 16))), (IntKind.wrap .u16 x_.Min), 65535, x_.SS, x_.SP, 0, x_.IP, x_.CS, 28, 0] : List Int)).length 1] (.i (([(IntKind.wrap .u16 (Int.tmod (IntKind.wrap .i64 (r_2 + (x_.Bytes.length : Int))) 512)), (IntKind.wrap .u16 (IntKind.wrap .i64 (Int.tdiv (IntKind.wrap .i64 ((IntKind.wrap .i64 ((IntKind.wrap .i64 (r_2 + (x_.Bytes.length : Int))) + 512)) - 1)) 512))), (IntKind.wrap .u16 (x_.Relocs.length : Int)), (IntKind.wrap .u16 (IntKind.wrap .i64 (Int.tdiv r_2 16))), (IntKind.wrap .u16 x_.Min), 65535, x_.SS, x_.SP, 0, x_.IP, x_.CS, 28, 0] : List Int).length : Int)) [] (cut_lenR (e := (D.int .u16)) ([(IntKind.wrap .u16 (Int.tmod (IntKind.wrap .i64 (r_2 + (x_.Bytes.length : Int))) 512)), (IntKind.wrap .u16 (IntKind.wrap .i64 (Int.tdiv (IntKind.wrap .i64 ((IntKind.wrap .i64 ((IntKind.wrap .i64 (r_2 + (x_.Bytes.length : Int))) + 512)) - 1)) 512))), (IntKind.wrap .u16 (x_.Relocs.length : Int)), (IntKind.wrap .u16 (IntKind.wrap .i64 (Int.tdiv r_2 16))), (IntKind.wrap .u16 x_.Min), 65535, x_.SS, x_.SP, 0, x_.IP, x_.CS, 28, 0] : List Int) rfl) ?_
  refine Rc 1 [vi 0] <| Rk <| Runs.block ?_
  obtain ⟨e_1, he_1, h⟩ := bind_s h
  refine Runs.loop (fun x : ((List Int) × Int) => mz_Write_l22 x_ x.1 r_2 ([(IntKind.wrap .u16 (Int.tmod (IntKind.wrap .i64 (r_2 + (x_.Bytes.length : Int))) 512)), (IntKind.wrap .u16 (IntKind.wrap .i64 (Int.tdiv (IntKind.wrap .i64 ((IntKind.wrap .i64 ((IntKind.wrap .i64 (r_2 + (x_.Bytes.length : Int))) + 512)) - 1)) 512))), (IntKind.wrap .u16 (x_.Relocs.length : Int)), (IntKind.wrap .u16 (IntKind.wrap .i64 (Int.tdiv r_2 16))), (IntKind.wrap .u16 x_.Min), 65535, x_.SS, x_.SP, 0, x_.IP, x_.CS, 28, 0] : List Int) (([(IntKind.wrap .u16 (Int.tmod (IntKind.wrap .i64 (r_2 + (x_.Bytes.length : Int))) 512)), (IntKind.wrap .u16 (IntKind.wrap .i64 (Int.tdiv (IntKind.wrap .i64 ((IntKind.wrap .i64 ((IntKind.wrap .i64 (r_2 + (x_.Bytes.length : Int))) + 512)) - 1)) 512))), (IntKind.wrap .u16 (x_.Relocs.length : Int)), (IntKind.wrap .u16 (IntKind.wrap .i64 (Int.tdiv r_2 16))), (IntKind.wrap .u16 x_.Min), 65535, x_.SS, x_.SP, 0, x_.IP, x_.CS, 28, 0] : List Int).length : Int) x.2) (fun (x : ((List Int) × Int)) (g : Nat) => mz_Write_h22 x_ x.1 r_2 ([(IntKind.wrap .u16 (Int.tmod (IntKind.wrap .i64 (r_2 + (x_.Bytes.length : Int))) 512)), (IntKind.wrap .u16 (IntKind.wrap .i64 (Int.tdiv (IntKind.wrap .i64 ((IntKind.wrap .i64 ((IntKind.wrap .i64 (r_2 + (x_.Bytes.length : Int))) + 512)) - 1)) 512))), (IntKind.wrap .u16 (x_.Relocs.length : Int)), (IntKind.wrap .u16 (IntKind.wrap .i64 (Int.tdiv r_2 16))), (IntKind.wrap .u16 x_.Min), 65535, x_.SS, x_.SP, 0, x_.IP, x_.CS, 28, 0] : List Int) (([(IntKind.wrap .u16 (Int.tmod (IntKind.wrap .i64 (r_2 + (x_.Bytes.length : Int))) 512)), (IntKind.wrap .u16 (IntKind.wrap .i64 (Int.tdiv (IntKind.wrap .i64 ((IntKind.wrap .i64 ((IntKind.wrap .i64 (r_2 + (x_.Bytes.length : Int))) + 512)) - 1)) 512))), (IntKind.wrap .u16 (x_.Relocs.length : Int)), (IntKind.wrap .u16 (IntKind.wrap .i64 (Int.tdiv r_2 16))), (IntKind.wrap .u16 x_.Min), 65535, x_.SS, x_.SP, 0, x_.IP, x_.CS, 28, 0] : List Int).length : Int) x.2 g) (mz_Write_P22 x_ x_ r_2 ([(IntKind.wrap .u16 (Int.tmod (IntKind.wrap .i64 (r_2 + (x_.Bytes.length : Int))) 512)), (IntKind.wrap .u16 (IntKind.wrap .i64 (Int.tdiv (IntKind.wrap .i64 ((IntKind.wrap .i64 ((IntKind.wrap .i64 (r_2 + (x_.Bytes.length : Int))) + 512)) - 1)) 512))), (IntKind.wrap .u16 (x_.Relocs.length : Int)), (IntKind.wrap .u16 (IntKind.wrap .i64 (Int.tdiv r_2 16))), (IntKind.wrap .u16 x_.Min), 65535, x_.SS, x_.SP, 0, x_.IP, x_.CS, 28, 0] : List Int) (([(IntKind.wrap .u16 (Int.tmod (IntKind.wrap .i64 (r_2 + (x_.Bytes.length : Int))) 512)), (IntKind.wrap .u16 (IntKind.wrap .i64 (Int.tdiv (IntKind.wrap .i64 ((IntKind.wrap .i64 ((IntKind.wrap .i64 (r_2 + (x_.Bytes.length : Int))) + 512)) - 1)) 512))), (IntKind.wrap .u16 (x_.Relocs.length : Int)), (IntKind.wrap .u16 (IntKind.wrap .i64 (Int.tdiv r_2 16))), (IntKind.wrap .u16 x_.Min), 65535, x_.SS, x_.SP, 0, x_.IP, x_.CS, 28, 0] : List Int).length : Int)) (fun x g r hr => mz_Write_l22_ok x_ x_ x.1 r_2 ([(IntKind.wrap .u16 (Int.tmod (IntKind.wrap .i64 (r_2 + (x_.Bytes.length : Int))) 512)), (IntKind.wrap .u16 (IntKind.wrap .i64 (Int.tdiv (IntKind.wrap .i64 ((IntKind.wrap .i64 ((IntKind.wrap .i64 (r_2 + (x_.Bytes.length : Int))) + 512)) - 1)) 512))), (IntKind.wrap .u16 (x_.Relocs.length : Int)), (IntKind.wrap .u16 (IntKind.wrap .i64 (Int.tdiv r_2 16))), (IntKind.wrap .u16 x_.Min), 65535, x_.SS, x_.SP, 0, x_.IP, x_.CS, 28, 0] : List Int) (([(IntKind.wrap .u16 (Int.tmod (IntKind.wrap .i64 (r_2 + (x_.Bytes.length : Int))) 512)), (IntKind.wrap .u16 (IntKind.wrap .i64 (Int.tdiv (IntKind.wrap .i64 ((IntKind.wrap .i64 ((IntKind.wrap .i64 (r_2 + (x_.Bytes.length : Int))) + 512)) - 1)) 512))), (IntKind.wrap .u16 (x_.Relocs.length : Int)), (IntKind.wrap .u16 (IntKind.wrap .i64 (Int.tdiv r_2 16))), (IntKind.wrap .u16 x_.Min), 65535, x_.SS, x_.SP, 0, x_.IP, x_.CS, 28, 0] : List Int).length : Int) x.2 g r hr) 0 he_1 (Canon.cons (frz_ref (e := (D.int .u16)) (l := ([(IntKind.wrap .u16 (Int.tmod (IntKind.wrap .i64 (r_2 + (x_.Bytes.length : Int))) 512)), (IntKind.wrap .u16 (IntKind.wrap .i64 (Int.tdiv (IntKind.wrap .i64 ((IntKind.wrap .i64 ((IntKind.wrap .i64 (r_2 + (x_.Bytes.length : Int))) + 512)) - 1)) 512))), (IntKind.wrap .u16 (x_.Relocs.length : Int)), (IntKind.wrap .u16 (IntKind.wrap .i64 (Int.tdiv r_2 16))), (IntKind.wrap .u16 x_.Min), 65535, x_.SS, x_.SP, 0, x_.IP, x_.CS, 28, 0] : List Int)) (id := [52]) (v := 0) (n := 1) (fz := false) (by kernel_rfl) (by kernel_rfl) rfl) Cz) ?_
  rintro ⟨o, s⟩ hp
  obtain ⟨ho, g_1, hk_1⟩ := hp
  have ho' : o = .exit 0 := ho
  subst ho'
  refine kB_hit <| kS_nrm <| Runs.canon _ hk_1 <| Sq <| Sq <| Ro <| Rc 2 [vp [1] 0 1, ⟨.d (.sl (List.map (D.int .i64) x_.Relocs)), []⟩] <| Rt (some 67) .lenL [] none [.d (.sl (List.map (D.int .i64) x_.Relocs))] (.i (x_.Relocs.length : Int)) [] (cut_len _) <| Rc 1 [vi 0] <| Rk <| Runs.block ?_
  obtain ⟨e_2, he_2, h⟩ := bind_s h
  refine Runs.loop (fun x : ((List Int) × Int) => mz_Write_l39 x_ x.1 r_2 x_.Relocs (x_.Relocs.length : Int) x.2) (fun (x : ((List Int) × Int)) (g : Nat) => mz_Write_h39 x_ x.1 r_2 x_.Relocs (x_.Relocs.length : Int) x.2 g) (mz_Write_P39 x_ x_ r_2 x_.Relocs (x_.Relocs.length : Int)) (fun x g r hr => mz_Write_l39_ok x_ x_ x.1 r_2 x_.Relocs (x_.Relocs.length : Int) x.2 g r hr) g_1 he_2 Cz ?_
  rintro ⟨o, s⟩ hp
  obtain ⟨ho, g_2, hk_2⟩ := hp
  have ho' : o = .exit 2 := ho
  subst ho'
  refine kB_hit <| kS_nrm <| Runs.canon _ hk_2 <| Sq <| Ro <| Rc 3 [⟨.ref [53] g_2 0 (mY e_2).length 1, []⟩, vi r_2, ⟨.ref [53] g_2 0 (mY e_2).length 1, []⟩] <| Rt (some 89) .lenL [] none [.ref [53] g_2 0 (mY e_2).length 1] (.i (e_2.length : Int)) [] (cut_lenR (e := (D.int .u8)) e_2 rfl) <| Rc 1 [vi (IntKind.wrap .i64 (r_2 - (e_2.length : Int)))] ?_
  obtain ⟨z_1, hz_1, h⟩ := bind_s h
  refine Rt (some 91) (.appmk (.int .u8 0) 1) [] none [.ref [53] g_2 0 (mY e_2).length 1, .i (IntKind.wrap .i64 (r_2 - (e_2.length : Int)))] (.ref [53] (g_2 + 1) 0 (mY z_1).length 1) [([53], some (.arr (mY z_1) (g_2 + 1) false))] (cut_apzR (e := (D.int .u8)) (l := e_2) (z := 0) (fz := false) hz_1 rfl (by kernel_rfl) (by kernel_rfl) rfl) <| Rc 1 [⟨.ref [53] (g_2 + 1) 0 (mY z_1).length 1, []⟩] <| Rk <| Sq <| Ro <| Rc 3 [⟨.ref [53] (g_2 + 1) 0 (mY z_1).length 1, []⟩, vp [1] 0 0, ⟨.d (.sl (mY x_.Bytes)), []⟩] ?_
  obtain ⟨z_2, hz_2, h⟩ := bind_s h
  refine Rt (some 95) (.append 1 1 false) [] none [.ref [53] (g_2 + 1) 0 (mY z_1).length 1, .d (.sl (mY x_.Bytes))] (.ref [53] ((g_2 + 1) + 1) 0 (mY z_2).length 1) [([53], some (.arr (mY z_2) ((g_2 + 1) + 1) false))] (cut_appR (e := (D.int .u8)) (l := z_1) (fz := false) (ws := []) (ap_data _) (fun _ => rfl) hz_2 (by kernel_rfl) (by kernel_rfl) rfl) <| Rc 2 [⟨.ref [53] ((g_2 + 1) + 1) 0 (mY z_2).length 1, []⟩, vi 0] <| Rk <| Sq <| Runs.gcons (frz_ref (e := (D.int .u8)) (l := z_2) (id := [53]) (v := ((g_2 + 1) + 1)) (n := 1) (fz := false) (by kernel_rfl) (by kernel_rfl) rfl) <| Runs.gnil <| kS_nrm <| Runs.ret ?_
  cases h
  exact Fq
theorem mz_Write_L (x_ : Image) (r : ((List Int) × Int)) (h : mz_Write x_ = some r) : L 31 [.d (Image.d x_)] = some (.tup [.d (.sl (mY r.1)), .i r.2], [.d (Image.d x_)]) := by
 obtain ⟨p, ⟨hne, hf⟩, hr⟩ := mz_Write_ok x_ r h
 obtain ⟨k, hk⟩ := run_of (F := F31) (args := [.d (Image.d x_)]) (ap := [.d (Image.d x_)]) (bx0 := updW (fun _ => none) []) rfl rfl (by kernel_rfl) ⟨p, ⟨hne, hf⟩, hr⟩
 exact lim_run (k := k) rfl hk
def index_From_Q (b_ : (List Int)) (r : Source) (p : Out × St) : Prop := (∀ i, p.1 ≠ .exit i) ∧ finF F50 [.d (.sl (mY b_))] p.2 = some (.ptr [.d (.sl (mY r.b)), .i r.e], [.d (.sl (mY b_))])
theorem index_From_ok (b_ : (List Int)) (r : Source) (h : index_From b_ = some r) : Runs L F50.body ⟨tmOf [.d (.sl (mY b_))] 0, updW (fun _ => none) []⟩ (index_From_Q b_ r) := by
 unfold index_From at h
 refine Sq <| Ro <| Rc 1 [⟨.nilp, []⟩] <| Rk <| Sq <| Ro <| Rc 1 [⟨.d (.sl (mY b_)), []⟩] ?_
 obtain ⟨z_1, hz_1, h⟩ := bind_s h
 refine Rt (some 4) (.append 1 1 false) [] none [.nils, .d (.sl (mY b_))] (.ref [4] 0 0 (mY z_1).length 1) [([4], some (.arr (mY z_1) 0 false))] (cut_appN (e := (D.int .u8)) (ws := []) (ap_data _) (fun _ => rfl) hz_1 (by kernel_rfl)) <| Rc 3 [⟨.mix [.ref [4] 0 0 (mY z_1).length 1, .i 0], []⟩, ⟨.ptr [6] 0 0, [([6], some (.cells [.ref [4] 0 0 (mY z_1).length 1, .i 0] 0))]⟩, vp [6] 0 0] <| Rk <| Sq <| Runs.gcons (frzB_ref (e := (D.int .u8)) (l := z_1) (id := [6]) (id' := [4]) (v := 0) (n := 1) (fz := false) (ver := 0) (cs := [.ref [4] 0 0 (mY z_1).length 1, .i 0]) (cs' := [.d (.sl (mY z_1)), .i 0]) (by kernel_rfl) (by kernel_rfl) (by kernel_rfl) (by decide) (by kernel_rfl) rfl) <| Runs.gnil <| kS_nrm <| Runs.ret ?_
 cases h
 exact Fq
theorem index_From_L (b_ : (List Int)) (r : Source) (h : index_From b_ = some r) : L 50 [.d (.sl (mY b_))] = some (.ptr [.d (.sl (mY r.b)), .i r.e], [.d (.sl (mY b_))]) := by
 obtain ⟨p, ⟨hne, hf⟩, hr⟩ := index_From_ok b_ r h
 obtain ⟨k, hk⟩ := run_of (F := F50) (args := [.d (.sl (mY b_))]) (ap := [.d (.sl (mY b_))]) (bx0 := updW (fun _ => none) []) rfl rfl (by kernel_rfl) ⟨p, ⟨hne, hf⟩, hr⟩
 exact lim_run (k := k) rfl hk
def index_Source_Wrong_Q (s_ : Source) (e_ : Int) (r : Source) (p : Out × St) : Prop := (∀ i, p.1 ≠ .exit i) ∧ finF F56 [.ptr [0] 0 0, .i e_] p.2 = some (.tup [], [.ptr [.d (.sl (mY r.b)), .i r.e], .i e_])
theorem index_Source_Wrong_ok (s_ : Source) (e_ : Int) (r : Source) (h : index_Source_Wrong s_ e_ = some r) : Runs L F56.body ⟨tmOf [.ptr [0] 0 0, .i e_] 0, updW (fun _ => none) [([0], some (.cells [.d (.sl (mY s_.b)), .i s_.e] 0))]⟩ (index_Source_Wrong_Q s_ e_ r) := by
 unfold index_Source_Wrong at h
 refine Sq <| Sq <| Ro <| Rc 10 [vp [0] 0 0, vb true, vb true, vp [0] 0 0, vp [0] 0 0, vp [0] 0 1, vi s_.e, vb (s_.e == 0), vb (s_.e == 0), vb (s_.e == 0)] ?_
 cases hb_1 : ((s_.e == 0) : Bool) with
 | true =>
  replace h := ite_t hb_1 h
  refine Rc 3 [vi e_, vb (e_ != 0), vb (e_ != 0)] <| Rk ?_
  cases hb_2 : ((e_ != 0) : Bool) with
  | true =>
   replace h := ite_t hb_2 h
   refine Ct <| Ro <| Rc 9 [vp [0] 0 0, vp [0] 0 0, vi e_, vp [0] 0 0, vp [0] 0 1, ⟨.tup [], [([0], some (.cells [.d (.sl (mY s_.b)), .i e_] 0))]⟩, vp [0] 0 0, vp [0] 0 0, ⟨.tup [], [([0], some (.cells [.nils, .i e_] 0))]⟩] <| Rk <| Runs.gcons (frzB_nil (ver := 0) (cs := [.nils, .i e_]) (cs' := [.d (.sl (mY ([] : List Int))), .i e_]) (D.int .u8) (by kernel_rfl) (by kernel_rfl) (by kernel_rfl)) <| Runs.gnil ?_
   obtain rfl := sj h
   exact ⟨Out.nrm_ne, (by kernel_rfl)⟩
  | false =>
   replace h := ite_f hb_2 h
   refine Cf <| Runs.skip <| kS_nrm <| Runs.gsame (by kernel_rfl) <| Runs.gnil ?_
   obtain rfl := sj h
   exact ⟨Out.nrm_ne, (by kernel_rfl)⟩
 | false =>
  replace h := ite_f hb_1 h
  refine Rc 3 [vn, vn, vb false] <| Rk <| Cf <| Runs.skip <| kS_nrm <| Runs.gsame (by kernel_rfl) <| Runs.gnil ?_
  obtain rfl := sj h
  exact ⟨Out.nrm_ne, (by kernel_rfl)⟩
theorem index_Source_Wrong_L (s_ : Source) (e_ : Int) (r : Source) (h : index_Source_Wrong s_ e_ = some r) : L 56 [.ptr [.d (.sl (mY s_.b)), .i s_.e], .i e_] = some (.tup [], [.ptr [.d (.sl (mY r.b)), .i r.e], .i e_]) := by
 obtain ⟨p, ⟨hne, hf⟩, hr⟩ := index_Source_Wrong_ok s_ e_ r h
 obtain ⟨k, hk⟩ := run_of (F := F56) (args := [.ptr [.d (.sl (mY s_.b)), .i s_.e], .i e_]) (ap := [.ptr [0] 0 0, .i e_]) (bx0 := updW (fun _ => none) [([0], some (.cells [.d (.sl (mY s_.b)), .i s_.e] 0))]) rfl rfl (by kernel_rfl) ⟨p, ⟨hne, hf⟩, hr⟩
 exact lim_run (k := k) rfl hk
def index_Source_Take_Q (s_ : Source) (n_ : Int) (r : ((List Int) × Source)) (p : Out × St) : Prop := (∀ i, p.1 ≠ .exit i) ∧ finF F99 [.ptr [0] 0 0, .i n_] p.2 = some (.d (.sl (mY r.1)), [.ptr [.d (.sl (mY r.2.b)), .i r.2.e], .i n_])
theorem index_Source_Take_ok (s_ : Source) (n_ : Int) (r : ((List Int) × Source)) (h : index_Source_Take s_ n_ = some r) : Runs L F99.body ⟨tmOf [.ptr [0] 0 0, .i n_] 0, updW (fun _ => none) [([0], some (.cells [.d (.sl (mY s_.b)), .i s_.e] 0))]⟩ (index_Source_Take_Q s_ n_ r) := by
 unfold index_Source_Take at h
 refine Sq <| Ro <| Rc 1 [⟨.nils, []⟩] <| Rk <| Sq <| Sq <| Ro <| Rc 2 [vp [0] 0 0, vb false] <| Rk <| Cf <| Runs.skip <| kS_nrm <| Sq <| Sq <| Ro <| Rc 3 [vi n_, vb (decide (n_ < 0)), vb (decide (n_ < 0))] ?_
 cases hb_1 : ((decide (n_ < 0)) : Bool) with
 | true =>
  replace h := ite_t hb_1 h
  refine Rc 8 [vn, vn, vn, vn, vn, vn, vn, vb true] <| Rk <| Ct <| Sq <| Ro <| Rc 1 [vp [0] 0 0] ?_
  obtain ⟨r_1, hr_1, h⟩ := bind_s h
  have hc_1 := index_Source_Wrong_L s_ 2 r_1 hr_1
  refine Rt (some 20) (.callf 56) [] none [.ptr [0] 0 0, .i 2] (.tup []) [([0], some (.cells [.d (.sl (mY r_1.b)), .i r_1.e] 0))] (cut_call (call_of (ws := []) (us := [([0], some (.cells [.d (.sl (mY r_1.b)), .i r_1.e] 0))]) (by kernel_rfl) (by kernel_rfl) hc_1 (by kernel_rfl) (by kernel_rfl))) <| Rk <| Sq <| Ro <| Rc 1 [⟨.nils, []⟩] <| Rk <| Sq <| Runs.gcons (frz_nil (D.int .u8) (by kernel_rfl)) <| Runs.gnil <| kS_nrm <| Runs.ret <| kS_ret ?_
  cases h
  exact Fq
 | false =>
  replace h := ite_f hb_1 h
  refine Rc 5 [vi n_, vp [0] 0 0, vp [0] 0 0, vp [0] 0 0, ⟨.d (.sl (mY s_.b)), []⟩] <| Rt (some 16) .lenL [] none [.d (.sl (mY s_.b))] (.i (s_.b.length : Int)) [] (cut_len _) <| Rc 2 [vb (decide (n_ > (s_.b.length : Int))), vb (decide (n_ > (s_.b.length : Int)))] <| Rk ?_
  cases hb_2 : ((decide (n_ > (s_.b.length : Int))) : Bool) with
  | true =>
   replace h := ite_t hb_2 h
   refine Ct <| Sq <| Ro <| Rc 1 [vp [0] 0 0] ?_
   obtain ⟨r_2, hr_2, h⟩ := bind_s h
   have hc_2 := index_Source_Wrong_L s_ 2 r_2 hr_2
   refine Rt (some 20) (.callf 56) [] none [.ptr [0] 0 0, .i 2] (.tup []) [([0], some (.cells [.d (.sl (mY r_2.b)), .i r_2.e] 0))] (cut_call (call_of (ws := []) (us := [([0], some (.cells [.d (.sl (mY r_2.b)), .i r_2.e] 0))]) (by kernel_rfl) (by kernel_rfl) hc_2 (by kernel_rfl) (by kernel_rfl))) <| Rk <| Sq <| Ro <| Rc 1 [⟨.nils, []⟩] <| Rk <| Sq <| Runs.gcons (frz_nil (D.int .u8) (by kernel_rfl)) <| Runs.gnil <| kS_nrm <| Runs.ret <| kS_ret ?_
   cases h
   exact Fq
  | false =>
   replace h := ite_f hb_2 h
   refine Cf <| Runs.skip <| kS_nrm <| Sq <| Ro <| Rc 6 [vp [0] 0 0, vp [0] 0 0, vp [0] 0 0, ⟨.d (.sl (mY s_.b)), []⟩, vi n_, vi n_] ?_
   obtain ⟨z_1, hz_1, h⟩ := bind_s h
   refine Rt (some 27) (.subsl 1 false true true) [] none [.d (.sl (mY s_.b)), .i n_, .i n_] (.d (.sl (mY z_1))) [] (cut_slFTT hz_1 (fun _ => rfl)) <| Rc 1 [⟨.d (.sl (mY z_1)), []⟩] <| Rk <| Sq <| Ro <| Rc 6 [vp [0] 0 0, vp [0] 0 0, vp [0] 0 0, vp [0] 0 0, ⟨.d (.sl (mY s_.b)), []⟩, vi n_] ?_
   obtain ⟨z_2, hz_2, h⟩ := bind_s h
   refine Rt (some 34) (.subsl 1 true false false) [] none [.d (.sl (mY s_.b)), .i n_] (.d (.sl (mY z_2))) [] (cut_slTF hz_2 (fun _ => rfl)) <| Rc 3 [vp [0] 0 0, vp [0] 0 0, ⟨.tup [], [([0], some (.cells [.d (.sl (mY z_2)), .i s_.e] 0))]⟩] <| Rk <| Sq <| Ro <| Rc 2 [⟨.d (.sl (mY z_1)), []⟩, ⟨.d (.sl (mY z_1)), []⟩] <| Rk <| Runs.ret ?_
   cases h
   exact Fq
theorem index_Source_Take_L (s_ : Source) (n_ : Int) (r : ((List Int) × Source)) (h : index_Source_Take s_ n_ = some r) : L 99 [.ptr [.d (.sl (mY s_.b)), .i s_.e], .i n_] = some (.d (.sl (mY r.1)), [.ptr [.d (.sl (mY r.2.b)), .i r.2.e], .i n_]) := by
 obtain ⟨p, ⟨hne, hf⟩, hr⟩ := index_Source_Take_ok s_ n_ r h
 obtain ⟨k, hk⟩ := run_of (F := F99) (args := [.ptr [.d (.sl (mY s_.b)), .i s_.e], .i n_]) (ap := [.ptr [0] 0 0, .i n_]) (bx0 := updW (fun _ => none) [([0], some (.cells [.d (.sl (mY s_.b)), .i s_.e] 0))]) rfl rfl (by kernel_rfl) ⟨p, ⟨hne, hf⟩, hr⟩
 exact lim_run (k := k) rfl hk
def bits_Word_Q (low_ : Int) (high_ : Int) (r : Int) (p : Out × St) : Prop := (∀ i, p.1 ≠ .exit i) ∧ finF F102 [.y low_, .y high_] p.2 = some (.w r, [.y low_, .y high_])
theorem bits_Word_ok (low_ : Int) (high_ : Int) (r : Int) (h : bits_Word low_ high_ = some r) : Runs L F102.body ⟨tmOf [.y low_, .y high_] 0, updW (fun _ => none) []⟩ (bits_Word_Q low_ high_ r) := by
 unfold bits_Word at h
 refine Sq <| Ro <| Rc 1 [vw 0] <| Rk <| Sq <| Ro <| Rc 7 [vy low_, vw (IntKind.wrap .u16 low_), vy high_, vw (IntKind.wrap .u16 high_), vw (shlI .u16 (IntKind.wrap .u16 high_) 8), vw (bitsOp .or .u16 (IntKind.wrap .u16 low_) (shlI .u16 (IntKind.wrap .u16 high_) 8)), vw (bitsOp .or .u16 (IntKind.wrap .u16 low_) (shlI .u16 (IntKind.wrap .u16 high_) 8))] <| Rk <| Runs.ret ?_
 cases h
 exact Fq
theorem bits_Word_L (low_ : Int) (high_ : Int) (r : Int) (h : bits_Word low_ high_ = some r) : L 102 [.y low_, .y high_] = some (.w r, [.y low_, .y high_]) := by
 obtain ⟨p, ⟨hne, hf⟩, hr⟩ := bits_Word_ok low_ high_ r h
 obtain ⟨k, hk⟩ := run_of (F := F102) (args := [.y low_, .y high_]) (ap := [.y low_, .y high_]) (bx0 := updW (fun _ => none) []) rfl rfl (by kernel_rfl) ⟨p, ⟨hne, hf⟩, hr⟩
 exact lim_run (k := k) rfl hk
def index_Source_Word_Q (s_ : Source) (r : (Int × Source)) (p : Out × St) : Prop := (∀ i, p.1 ≠ .exit i) ∧ finF F64 [.ptr [0] 0 0] p.2 = some (.w r.1, [.ptr [.d (.sl (mY r.2.b)), .i r.2.e]])
theorem index_Source_Word_ok (s_ : Source) (r : (Int × Source)) (h : index_Source_Word s_ = some r) : Runs L F64.body ⟨tmOf [.ptr [0] 0 0] 0, updW (fun _ => none) [([0], some (.cells [.d (.sl (mY s_.b)), .i s_.e] 0))]⟩ (index_Source_Word_Q s_ r) := by
 unfold index_Source_Word at h
 refine Sq <| Ro <| Rc 1 [vw 0] <| Rk <| Sq <| Sq <| Ro <| Rc 1 [vp [0] 0 0] ?_
 obtain ⟨r_1, hr_1, h⟩ := bind_s h
 have hc_1 := index_Source_Take_L s_ 2 r_1 hr_1
 refine Rt (some 5) (.callf 99) [] none [.ptr [0] 0 0, .i 2] (.d (.sl (mY r_1.1))) [([0], some (.cells [.d (.sl (mY r_1.2.b)), .i r_1.2.e] 0))] (cut_call (call_of (ws := []) (us := [([0], some (.cells [.d (.sl (mY r_1.2.b)), .i r_1.2.e] 0))]) (by kernel_rfl) (by kernel_rfl) hc_1 (by kernel_rfl) (by kernel_rfl))) <| Rc 1 [⟨.d (.sl (mY r_1.1)), []⟩] <| Rk <| Sq <| Ro <| Rc 1 [⟨.d (.sl (mY r_1.1)), []⟩] <| Rt (some 7) .lenL [] none [.d (.sl (mY r_1.1))] (.i (r_1.1.length : Int)) [] (cut_len _) <| Rc 1 [vb ((r_1.1.length : Int) == 2)] <| Rk ?_
 cases hb_1 : (((r_1.1.length : Int) == 2) : Bool) with
 | true =>
  replace h := ite_t hb_1 h
  refine Ct <| Sq <| Ro <| Rc 1 [⟨.d (.sl (mY r_1.1)), []⟩] ?_
  obtain ⟨z_1, hz_1, h⟩ := bind_s h
  refine Rt (some 10) (.iaddrS 1) [] none [.d (.sl (mY r_1.1)), .i 0] (.elt (.int .u8 z_1) 0) [] (cut_at hz_1 (fun _ => rfl)) <| Rc 2 [vy z_1, ⟨.d (.sl (mY r_1.1)), []⟩] ?_
  obtain ⟨z_2, hz_2, h⟩ := bind_s h
  refine Rt (some 13) (.iaddrS 1) [] none [.d (.sl (mY r_1.1)), .i 1] (.elt (.int .u8 z_2) 0) [] (cut_at hz_2 (fun _ => rfl)) <| Rc 1 [vy z_2] ?_
  obtain ⟨r_2, hr_2, h⟩ := bind_s h
  have hc_2 := bits_Word_L z_1 z_2 r_2 hr_2
  refine Rt (some 15) (.callf 102) [] none [.y z_1, .y z_2] (.w r_2) [] (cc hc_2) <| Rc 1 [vw r_2] <| Rk <| Runs.ret <| kS_ret ?_
  cases h
  exact Fq
 | false =>
  replace h := ite_f hb_1 h
  refine Cf <| Runs.skip <| kS_nrm <| Sq <| Ro <| Rc 1 [vw 0] <| Rk <| Runs.ret ?_
  cases h
  exact Fq
theorem index_Source_Word_L (s_ : Source) (r : (Int × Source)) (h : index_Source_Word s_ = some r) : L 64 [.ptr [.d (.sl (mY s_.b)), .i s_.e]] = some (.w r.1, [.ptr [.d (.sl (mY r.2.b)), .i r.2.e]]) := by
 obtain ⟨p, ⟨hne, hf⟩, hr⟩ := index_Source_Word_ok s_ r h
 obtain ⟨k, hk⟩ := run_of (F := F64) (args := [.ptr [.d (.sl (mY s_.b)), .i s_.e]]) (ap := [.ptr [0] 0 0]) (bx0 := updW (fun _ => none) [([0], some (.cells [.d (.sl (mY s_.b)), .i s_.e] 0))]) rfl rfl (by kernel_rfl) ⟨p, ⟨hne, hf⟩, hr⟩
 exact lim_run (k := k) rfl hk
def mz_first_Q (b_ : (List Int)) (r : (Header × Int)) (p : Out × St) : Prop := (∀ i, p.1 ≠ .exit i) ∧ finF F72 [.d (.sl (mY b_))] p.2 = some (.tup [.d (Header.d r.1), .i r.2], [.d (.sl (mY b_))])
theorem mz_first_ok (b_ : (List Int)) (r : (Header × Int)) (h : mz_first b_ = some r) : Runs L F72.body ⟨tmOf [.d (.sl (mY b_))] 0, updW (fun _ => none) []⟩ (mz_first_Q b_ r) := by
 unfold mz_first at h
 refine Sq <| Ro <| Rc 2 [⟨.ptr [2] 0 0, [([2], some (.cells [.w 0, .w 0, .w 0, .w 0, .w 0, .w 0, .w 0, .w 0, .w 0, .w 0] 0))]⟩, vi 0] <| Rk <| Sq <| Sq <| Ro <| Rc 1 [⟨.d (.sl (mY b_)), []⟩] <| Rt (some 8) .lenL [] none [.d (.sl (mY b_))] (.i (b_.length : Int)) [] (cut_len _) <| Rc 1 [vb (decide ((b_.length : Int) < 28))] <| Rk ?_
 cases hb_1 : ((decide ((b_.length : Int) < 28)) : Bool) with
 | true =>
  replace h := ite_t hb_1 h
  refine Ct <| Sq <| Ro <| Rc 3 [⟨.d (.agg [.int .u16 0, .int .u16 0, .int .u16 0, .int .u16 0, .int .u16 0, .int .u16 0, .int .u16 0, .int .u16 0, .int .u16 0, .int .u16 0]), []⟩, ⟨.tup [], [([2], some (.cells [.w 0, .w 0, .w 0, .w 0, .w 0, .w 0, .w 0, .w 0, .w 0, .w 0] 0))]⟩, vi 2] <| Rk <| Runs.ret <| kS_ret ?_
  cases h
  exact Fq
 | false =>
  replace h := ite_f hb_1 h
  refine Cf <| Runs.skip <| kS_nrm <| Sq <| Sq <| Ro <| Rc 1 [⟨.d (.sl (mY b_)), []⟩] ?_
  obtain ⟨z_1, hz_1, h⟩ := bind_s h
  refine Rt (some 12) (.iaddrS 1) [] none [.d (.sl (mY b_)), .i 0] (.elt (.int .u8 z_1) 0) [] (cut_at hz_1 (fun _ => rfl)) <| Rc 3 [vy z_1, vb (z_1 != 77), vb (z_1 != 77)] ?_
  cases hb_2 : ((z_1 != 77) : Bool) with
  | true =>
   replace h := ite_t hb_2 h
   refine Rc 5 [vn, vn, vn, vn, vb true] <| Rk <| Ct <| Sq <| Ro <| Rc 3 [⟨.d (.agg [.int .u16 0, .int .u16 0, .int .u16 0, .int .u16 0, .int .u16 0, .int .u16 0, .int .u16 0, .int .u16 0, .int .u16 0, .int .u16 0]), []⟩, ⟨.tup [], [([2], some (.cells [.w 0, .w 0, .w 0, .w 0, .w 0, .w 0, .w 0, .w 0, .w 0, .w 0] 0))]⟩, vi 440] <| Rk <| Runs.ret <| kS_ret ?_
   cases h
   exact Fq
  | false =>
   replace h := ite_f hb_2 h
   refine Rc 1 [⟨.d (.sl (mY b_)), []⟩] ?_
   obtain ⟨z_2, hz_2, h⟩ := bind_s h
   refine Rt (some 17) (.iaddrS 1) [] none [.d (.sl (mY b_)), .i 1] (.elt (.int .u8 z_2) 0) [] (cut_at hz_2 (fun _ => rfl)) <| Rc 3 [vy z_2, vb (z_2 != 90), vb (z_2 != 90)] <| Rk ?_
   cases hb_3 : ((z_2 != 90) : Bool) with
   | true =>
    replace h := ite_t hb_3 h
    refine Ct <| Sq <| Ro <| Rc 3 [⟨.d (.agg [.int .u16 0, .int .u16 0, .int .u16 0, .int .u16 0, .int .u16 0, .int .u16 0, .int .u16 0, .int .u16 0, .int .u16 0, .int .u16 0]), []⟩, ⟨.tup [], [([2], some (.cells [.w 0, .w 0, .w 0, .w 0, .w 0, .w 0, .w 0, .w 0, .w 0, .w 0] 0))]⟩, vi 440] <| Rk <| Runs.ret <| kS_ret ?_
    cases h
    exact Fq
   | false =>
    replace h := ite_f hb_3 h
    refine Cf <| Runs.skip <| kS_nrm <| Sq <| Ro <| Rc 1 [⟨.d (.sl (mY b_)), []⟩] ?_
    obtain ⟨z_3, hz_3, h⟩ := bind_s h
    refine Rt (some 23) (.subsl 1 true true false) [] none [.d (.sl (mY b_)), .i 2, .i 28] (.d (.sl (mY z_3))) [] (cut_slTT hz_3 (fun _ => rfl)) ?_
    obtain ⟨r_1, hr_1, h⟩ := bind_s h
    have hc_1 := index_From_L z_3 r_1 hr_1
    refine Rt (some 24) (.callf 50) [] none [.d (.sl (mY z_3))] (.ptr [24] 0 0) [([24], some (.cells [.d (.sl (mY r_1.b)), .i r_1.e] 0))] (cc hc_1) <| Rc 1 [vp [24] 0 0] <| Rk <| Sq <| Ro <| Rc 1 [⟨.fn 64 [], []⟩] <| Rk <| Sq <| Ro <| Rc 2 [⟨.fn 64 [], []⟩, vp [24] 0 0] ?_
    obtain ⟨r_2, hr_2, h⟩ := bind_s h
    have hc_2 := index_Source_Word_L r_1 r_2 hr_2
    refine Rt (some 27) .callv [] none [.fn 64 [], .ptr [24] 0 0] (.w r_2.1) [([24], some (.cells [.d (.sl (mY r_2.2.b)), .i r_2.2.e] 0))] (cut_callv (call_of (ws := []) (us := [([24], some (.cells [.d (.sl (mY r_2.2.b)), .i r_2.2.e] 0))]) (by kernel_rfl) (by kernel_rfl) hc_2 (by kernel_rfl) (by kernel_rfl))) <| Rc 2 [⟨.fn 64 [], []⟩, vp [24] 0 0] ?_
    obtain ⟨r_3, hr_3, h⟩ := bind_s h
    have hc_3 := index_Source_Word_L r_2.2 r_3 hr_3
    refine Rt (some 30) .callv [] none [.fn 64 [], .ptr [24] 0 0] (.w r_3.1) [([24], some (.cells [.d (.sl (mY r_3.2.b)), .i r_3.2.e] 0))] (cut_callv (call_of (ws := []) (us := [([24], some (.cells [.d (.sl (mY r_3.2.b)), .i r_3.2.e] 0))]) (by kernel_rfl) (by kernel_rfl) hc_3 (by kernel_rfl) (by kernel_rfl))) <| Rc 2 [⟨.fn 64 [], []⟩, vp [24] 0 0] ?_
    obtain ⟨r_4, hr_4, h⟩ := bind_s h
    have hc_4 := index_Source_Word_L r_3.2 r_4 hr_4
    refine Rt (some 33) .callv [] none [.fn 64 [], .ptr [24] 0 0] (.w r_4.1) [([24], some (.cells [.d (.sl (mY r_4.2.b)), .i r_4.2.e] 0))] (cut_callv (call_of (ws := []) (us := [([24], some (.cells [.d (.sl (mY r_4.2.b)), .i r_4.2.e] 0))]) (by kernel_rfl) (by kernel_rfl) hc_4 (by kernel_rfl) (by kernel_rfl))) <| Rc 2 [⟨.fn 64 [], []⟩, vp [24] 0 0] ?_
    obtain ⟨r_5, hr_5, h⟩ := bind_s h
    have hc_5 := index_Source_Word_L r_4.2 r_5 hr_5
    refine Rt (some 36) .callv [] none [.fn 64 [], .ptr [24] 0 0] (.w r_5.1) [([24], some (.cells [.d (.sl (mY r_5.2.b)), .i r_5.2.e] 0))] (cut_callv (call_of (ws := []) (us := [([24], some (.cells [.d (.sl (mY r_5.2.b)), .i r_5.2.e] 0))]) (by kernel_rfl) (by kernel_rfl) hc_5 (by kernel_rfl) (by kernel_rfl))) <| Rc 2 [⟨.fn 64 [], []⟩, vp [24] 0 0] ?_
    obtain ⟨r_6, hr_6, h⟩ := bind_s h
    have hc_6 := index_Source_Word_L r_5.2 r_6 hr_6
    refine Rt (some 39) .callv [] none [.fn 64 [], .ptr [24] 0 0] (.w r_6.1) [([24], some (.cells [.d (.sl (mY r_6.2.b)), .i r_6.2.e] 0))] (cut_callv (call_of (ws := []) (us := [([24], some (.cells [.d (.sl (mY r_6.2.b)), .i r_6.2.e] 0))]) (by kernel_rfl) (by kernel_rfl) hc_6 (by kernel_rfl) (by kernel_rfl))) <| Rc 3 [⟨.d (.agg [.int .u16 r_2.1, .int .u16 r_3.1, .int .u16 r_4.1, .int .u16 r_5.1, .int .u16 r_6.1, .int .u16 0, .int .u16 0, .int .u16 0, .int .u16 0, .int .u16 0]), []⟩, ⟨.ptr [6] 0 0, [([6], some (.cells [.w 0, .w 0, .w 0, .w 0, .w 0, .w 0, .w 0, .w 0, .w 0, .w 0] 0))]⟩, ⟨.tup [], [([6], some (.cells [.w r_2.1, .w r_3.1, .w r_4.1, .w r_5.1, .w r_6.1, .w 0, .w 0, .w 0, .w 0, .w 0] 0))]⟩] <| Rk <| Sq <| Ro <| Rc 2 [⟨.fn 64 [], []⟩, vp [24] 0 0] ?_
    obtain ⟨r_7, hr_7, h⟩ := bind_s h
    have hc_7 := index_Source_Word_L r_6.2 r_7 hr_7
    refine Rt (some 43) .callv [] none [.fn 64 [], .ptr [24] 0 0] (.w r_7.1) [([24], some (.cells [.d (.sl (mY r_7.2.b)), .i r_7.2.e] 0))] (cut_callv (call_of (ws := []) (us := [([24], some (.cells [.d (.sl (mY r_7.2.b)), .i r_7.2.e] 0))]) (by kernel_rfl) (by kernel_rfl) hc_7 (by kernel_rfl) (by kernel_rfl))) <| Rk <| Sq <| Ro <| Rc 2 [⟨.fn 64 [], []⟩, vp [24] 0 0] ?_
    obtain ⟨r_8, hr_8, h⟩ := bind_s h
    have hc_8 := index_Source_Word_L r_7.2 r_8 hr_8
    refine Rt (some 46) .callv [] none [.fn 64 [], .ptr [24] 0 0] (.w r_8.1) [([24], some (.cells [.d (.sl (mY r_8.2.b)), .i r_8.2.e] 0))] (cut_callv (call_of (ws := []) (us := [([24], some (.cells [.d (.sl (mY r_8.2.b)), .i r_8.2.e] 0))]) (by kernel_rfl) (by kernel_rfl) hc_8 (by kernel_rfl) (by kernel_rfl))) <| Rc 2 [⟨.fn 64 [], []⟩, vp [24] 0 0] ?_
    obtain ⟨r_9, hr_9, h⟩ := bind_s h
    have hc_9 := index_Source_Word_L r_8.2 r_9 hr_9
    refine Rt (some 49) .callv [] none [.fn 64 [], .ptr [24] 0 0] (.w r_9.1) [([24], some (.cells [.d (.sl (mY r_9.2.b)), .i r_9.2.e] 0))] (cut_callv (call_of (ws := []) (us := [([24], some (.cells [.d (.sl (mY r_9.2.b)), .i r_9.2.e] 0))]) (by kernel_rfl) (by kernel_rfl) hc_9 (by kernel_rfl) (by kernel_rfl))) <| Rc 4 [vp [6] 0 5, ⟨.tup [], [([6], some (.cells [.w r_2.1, .w r_3.1, .w r_4.1, .w r_5.1, .w r_6.1, .w r_8.1, .w 0, .w 0, .w 0, .w 0] 0))]⟩, vp [6] 0 6, ⟨.tup [], [([6], some (.cells [.w r_2.1, .w r_3.1, .w r_4.1, .w r_5.1, .w r_6.1, .w r_8.1, .w r_9.1, .w 0, .w 0, .w 0] 0))]⟩] <| Rk <| Sq <| Ro <| Rc 2 [⟨.fn 64 [], []⟩, vp [24] 0 0] ?_
    obtain ⟨r_10, hr_10, h⟩ := bind_s h
    have hc_10 := index_Source_Word_L r_9.2 r_10 hr_10
    refine Rt (some 54) .callv [] none [.fn 64 [], .ptr [24] 0 0] (.w r_10.1) [([24], some (.cells [.d (.sl (mY r_10.2.b)), .i r_10.2.e] 0))] (cut_callv (call_of (ws := []) (us := [([24], some (.cells [.d (.sl (mY r_10.2.b)), .i r_10.2.e] 0))]) (by kernel_rfl) (by kernel_rfl) hc_10 (by kernel_rfl) (by kernel_rfl))) <| Rk <| Sq <| Ro <| Rc 2 [⟨.fn 64 [], []⟩, vp [24] 0 0] ?_
    obtain ⟨r_11, hr_11, h⟩ := bind_s h
    have hc_11 := index_Source_Word_L r_10.2 r_11 hr_11
    refine Rt (some 57) .callv [] none [.fn 64 [], .ptr [24] 0 0] (.w r_11.1) [([24], some (.cells [.d (.sl (mY r_11.2.b)), .i r_11.2.e] 0))] (cut_callv (call_of (ws := []) (us := [([24], some (.cells [.d (.sl (mY r_11.2.b)), .i r_11.2.e] 0))]) (by kernel_rfl) (by kernel_rfl) hc_11 (by kernel_rfl) (by kernel_rfl))) <| Rc 2 [⟨.fn 64 [], []⟩, vp [24] 0 0] ?_
    obtain ⟨r_12, hr_12, h⟩ := bind_s h
    have hc_12 := index_Source_Word_L r_11.2 r_12 hr_12
    refine Rt (some 60) .callv [] none [.fn 64 [], .ptr [24] 0 0] (.w r_12.1) [([24], some (.cells [.d (.sl (mY r_12.2.b)), .i r_12.2.e] 0))] (cut_callv (call_of (ws := []) (us := [([24], some (.cells [.d (.sl (mY r_12.2.b)), .i r_12.2.e] 0))]) (by kernel_rfl) (by kernel_rfl) hc_12 (by kernel_rfl) (by kernel_rfl))) <| Rc 2 [⟨.fn 64 [], []⟩, vp [24] 0 0] ?_
    obtain ⟨r_13, hr_13, h⟩ := bind_s h
    have hc_13 := index_Source_Word_L r_12.2 r_13 hr_13
    refine Rt (some 63) .callv [] none [.fn 64 [], .ptr [24] 0 0] (.w r_13.1) [([24], some (.cells [.d (.sl (mY r_13.2.b)), .i r_13.2.e] 0))] (cut_callv (call_of (ws := []) (us := [([24], some (.cells [.d (.sl (mY r_13.2.b)), .i r_13.2.e] 0))]) (by kernel_rfl) (by kernel_rfl) hc_13 (by kernel_rfl) (by kernel_rfl))) <| Rc 6 [vp [6] 0 7, ⟨.tup [], [([6], some (.cells [.w r_2.1, .w r_3.1, .w r_4.1, .w r_5.1, .w r_6.1, .w r_8.1, .w r_9.1, .w r_11.1, .w 0, .w 0] 0))]⟩, vp [6] 0 8, ⟨.tup [], [([6], some (.cells [.w r_2.1, .w r_3.1, .w r_4.1, .w r_5.1, .w r_6.1, .w r_8.1, .w r_9.1, .w r_11.1, .w r_12.1, .w 0] 0))]⟩, vp [6] 0 9, ⟨.tup [], [([6], some (.cells [.w r_2.1, .w r_3.1, .w r_4.1, .w r_5.1, .w r_6.1, .w r_8.1, .w r_9.1, .w r_11.1, .w r_12.1, .w r_13.1] 0))]⟩] <| Rk <| Sq <| Ro <| Rc 3 [⟨.d (.agg [.int .u16 r_2.1, .int .u16 r_3.1, .int .u16 r_4.1, .int .u16 r_5.1, .int .u16 r_6.1, .int .u16 r_8.1, .int .u16 r_9.1, .int .u16 r_11.1, .int .u16 r_12.1, .int .u16 r_13.1]), []⟩, ⟨.tup [], [([2], some (.cells [.w r_2.1, .w r_3.1, .w r_4.1, .w r_5.1, .w r_6.1, .w r_8.1, .w r_9.1, .w r_11.1, .w r_12.1, .w r_13.1] 0))]⟩, vi 0] ?_
    refine Rk <| Runs.ret ?_
    cases h
    exact Fq
theorem mz_first_L (b_ : (List Int)) (r : (Header × Int)) (h : mz_first b_ = some r) : L 72 [.d (.sl (mY b_))] = some (.tup [.d (Header.d r.1), .i r.2], [.d (.sl (mY b_))]) := by
 obtain ⟨p, ⟨hne, hf⟩, hr⟩ := mz_first_ok b_ r h
 obtain ⟨k, hk⟩ := run_of (F := F72) (args := [.d (.sl (mY b_))]) (ap := [.d (.sl (mY b_))]) (bx0 := updW (fun _ => none) []) rfl rfl (by kernel_rfl) ⟨p, ⟨hne, hf⟩, hr⟩
 exact lim_run (k := k) rfl hk
def mz_size_Q (h_ : Header) (r : (Int × Bool)) (p : Out × St) : Prop := (∀ i, p.1 ≠ .exit i) ∧ finF F73 [.d (Header.d h_)] p.2 = some (.tup [.i r.1, .b r.2], [.d (Header.d h_)])
theorem mz_size_ok (h_ : Header) (r : (Int × Bool)) (h : mz_size h_ = some r) : Runs L F73.body ⟨tmOf [.d (Header.d h_)] 0, updW (fun _ => none) []⟩ (mz_size_Q h_ r) := by
 unfold mz_size at h
 refine Sq <| Ro <| Rc 3 [⟨.ptr [1] 0 0, [([1], some (.cells [.w h_.last, .w h_.pages, .w h_.relocs, .w h_.paras, .w h_.min, .w h_.ss, .w h_.sp, .w h_.ip, .w h_.cs_, .w h_.table] 0))]⟩, vi 0, vb false] <| Rk <| Sq <| Ro <| Rc 5 [vp [1] 0 1, vw h_.pages, vi (IntKind.wrap .i64 h_.pages), vi (IntKind.wrap .i64 ((IntKind.wrap .i64 h_.pages) * 512)), vi (IntKind.wrap .i64 ((IntKind.wrap .i64 h_.pages) * 512))] <| Rk <| Sq <| Sq <| Ro <| Rc 3 [vp [1] 0 0, vw h_.last, vb (decide (h_.last > 0))] <| Rk ?_
 cases hb_1 : ((decide (h_.last > 0)) : Bool) with
 | true =>
  replace h := ite_t hb_1 h
  refine Ct <| Ro <| Rc 7 [vi (IntKind.wrap .i64 ((IntKind.wrap .i64 h_.pages) * 512)), vp [1] 0 0, vw h_.last, vi (IntKind.wrap .i64 h_.last), vi (IntKind.wrap .i64 ((IntKind.wrap .i64 h_.last) - 512)), vi (IntKind.wrap .i64 ((IntKind.wrap .i64 ((IntKind.wrap .i64 h_.pages) * 512)) + (IntKind.wrap .i64 ((IntKind.wrap .i64 h_.last) - 512)))), vi (IntKind.wrap .i64 ((IntKind.wrap .i64 ((IntKind.wrap .i64 h_.pages) * 512)) + (IntKind.wrap .i64 ((IntKind.wrap .i64 h_.last) - 512))))] <| Rk <| Sq <| Ro <| Rc 5 [vi (IntKind.wrap .i64 ((IntKind.wrap .i64 ((IntKind.wrap .i64 h_.pages) * 512)) + (IntKind.wrap .i64 ((IntKind.wrap .i64 h_.last) - 512)))), vp [1] 0 0, vw h_.last, vb (decide (h_.last < 512)), vb (decide (h_.last < 512))] ?_
  cases hb_2 : ((decide (h_.last < 512)) : Bool) with
  | true =>
   replace h := ite_t hb_2 h
   refine Rc 9 [vi (IntKind.wrap .i64 ((IntKind.wrap .i64 ((IntKind.wrap .i64 h_.pages) * 512)) + (IntKind.wrap .i64 ((IntKind.wrap .i64 h_.last) - 512)))), vp [1] 0 3, vw h_.paras, vi (IntKind.wrap .i64 h_.paras), vi (IntKind.wrap .i64 ((IntKind.wrap .i64 h_.paras) * 16)), vb (decide ((IntKind.wrap .i64 ((IntKind.wrap .i64 ((IntKind.wrap .i64 h_.pages) * 512)) + (IntKind.wrap .i64 ((IntKind.wrap .i64 h_.last) - 512)))) ≥ (IntKind.wrap .i64 ((IntKind.wrap .i64 h_.paras) * 16)))), vb (decide ((IntKind.wrap .i64 ((IntKind.wrap .i64 ((IntKind.wrap .i64 h_.pages) * 512)) + (IntKind.wrap .i64 ((IntKind.wrap .i64 h_.last) - 512)))) ≥ (IntKind.wrap .i64 ((IntKind.wrap .i64 h_.paras) * 16)))), vi (IntKind.wrap .i64 ((IntKind.wrap .i64 ((IntKind.wrap .i64 h_.pages) * 512)) + (IntKind.wrap .i64 ((IntKind.wrap .i64 h_.last) - 512)))), vb (decide ((IntKind.wrap .i64 ((IntKind.wrap .i64 ((IntKind.wrap .i64 h_.pages) * 512)) + (IntKind.wrap .i64 ((IntKind.wrap .i64 h_.last) - 512)))) ≥ (IntKind.wrap .i64 ((IntKind.wrap .i64 h_.paras) * 16))))] <| Rk <| Runs.ret ?_
   cases h
   exact Fq
  | false =>
   replace h := ite_f hb_2 h
   refine Rc 9 [vn, vn, vn, vn, vn, vn, vb false, vi (IntKind.wrap .i64 ((IntKind.wrap .i64 ((IntKind.wrap .i64 h_.pages) * 512)) + (IntKind.wrap .i64 ((IntKind.wrap .i64 h_.last) - 512)))), vb false] <| Rk <| Runs.ret ?_
   cases h
   exact Fq
 | false =>
  replace h := ite_f hb_1 h
  refine Cf <| Runs.skip <| kS_nrm <| Sq <| Ro <| Rc 5 [vi (IntKind.wrap .i64 ((IntKind.wrap .i64 h_.pages) * 512)), vp [1] 0 0, vw h_.last, vb (decide (h_.last < 512)), vb (decide (h_.last < 512))] ?_
  cases hb_3 : ((decide (h_.last < 512)) : Bool) with
  | true =>
   replace h := ite_t hb_3 h
   refine Rc 9 [vi (IntKind.wrap .i64 ((IntKind.wrap .i64 h_.pages) * 512)), vp [1] 0 3, vw h_.paras, vi (IntKind.wrap .i64 h_.paras), vi (IntKind.wrap .i64 ((IntKind.wrap .i64 h_.paras) * 16)), vb (decide ((IntKind.wrap .i64 ((IntKind.wrap .i64 h_.pages) * 512)) ≥ (IntKind.wrap .i64 ((IntKind.wrap .i64 h_.paras) * 16)))), vb (decide ((IntKind.wrap .i64 ((IntKind.wrap .i64 h_.pages) * 512)) ≥ (IntKind.wrap .i64 ((IntKind.wrap .i64 h_.paras) * 16)))), vi (IntKind.wrap .i64 ((IntKind.wrap .i64 h_.pages) * 512)), vb (decide ((IntKind.wrap .i64 ((IntKind.wrap .i64 h_.pages) * 512)) ≥ (IntKind.wrap .i64 ((IntKind.wrap .i64 h_.paras) * 16))))] <| Rk <| Runs.ret ?_
   cases h
   exact Fq
  | false =>
   replace h := ite_f hb_3 h
   refine Rc 9 [vn, vn, vn, vn, vn, vn, vb false, vi (IntKind.wrap .i64 ((IntKind.wrap .i64 h_.pages) * 512)), vb false] <| Rk <| Runs.ret ?_
   cases h
   exact Fq
theorem mz_size_L (h_ : Header) (r : (Int × Bool)) (h : mz_size h_ = some r) : L 73 [.d (Header.d h_)] = some (.tup [.i r.1, .b r.2], [.d (Header.d h_)]) := by
 obtain ⟨p, ⟨hne, hf⟩, hr⟩ := mz_size_ok h_ r h
 obtain ⟨k, hk⟩ := run_of (F := F73) (args := [.d (Header.d h_)]) (ap := [.d (Header.d h_)]) (bx0 := updW (fun _ => none) []) rfl rfl (by kernel_rfl) ⟨p, ⟨hne, hf⟩, hr⟩
 exact lim_run (k := k) rfl hk
def bits_Linear_Q (seg_ : Int) (off_ : Int) (r : Int) (p : Out × St) : Prop := (∀ i, p.1 ≠ .exit i) ∧ finF F105 [.w seg_, .w off_] p.2 = some (.u r, [.w seg_, .w off_])
theorem bits_Linear_ok (seg_ : Int) (off_ : Int) (r : Int) (h : bits_Linear seg_ off_ = some r) : Runs L F105.body ⟨tmOf [.w seg_, .w off_] 0, updW (fun _ => none) []⟩ (bits_Linear_Q seg_ off_ r) := by
 unfold bits_Linear at h
 refine Sq <| Ro <| Rc 1 [vu 0] <| Rk <| Sq <| Ro <| Rc 8 [vw seg_, vu (IntKind.wrap .u32 seg_), vu (shlI .u32 (IntKind.wrap .u32 seg_) 4), vw off_, vu (IntKind.wrap .u32 off_), vu (IntKind.wrap .u32 ((shlI .u32 (IntKind.wrap .u32 seg_) 4) + (IntKind.wrap .u32 off_))), vu (bitsOp .and .u32 (IntKind.wrap .u32 ((shlI .u32 (IntKind.wrap .u32 seg_) 4) + (IntKind.wrap .u32 off_))) 1048575), vu (bitsOp .and .u32 (IntKind.wrap .u32 ((shlI .u32 (IntKind.wrap .u32 seg_) 4) + (IntKind.wrap .u32 off_))) 1048575)] <| Rk <| Runs.ret ?_
 cases h
 exact Fq
theorem bits_Linear_L (seg_ : Int) (off_ : Int) (r : Int) (h : bits_Linear seg_ off_ = some r) : L 105 [.w seg_, .w off_] = some (.u r, [.w seg_, .w off_]) := by
 obtain ⟨p, ⟨hne, hf⟩, hr⟩ := bits_Linear_ok seg_ off_ r h
 obtain ⟨k, hk⟩ := run_of (F := F105) (args := [.w seg_, .w off_]) (ap := [.w seg_, .w off_]) (bx0 := updW (fun _ => none) []) rfl rfl (by kernel_rfl) ⟨p, ⟨hne, hf⟩, hr⟩
 exact lim_run (k := k) rfl hk
def math_bits_Len64_h10 (x0 : Int) (n2 : Int) : St := ⟨tab [(0, .d (.int .u64 x0)), (2, .i n2)], tabB []⟩
def math_bits_Len64_h18 (x0 : Int) (n2 : Int) : St := ⟨tab [(0, .d (.int .u64 x0)), (2, .i n2)], tabB []⟩
def math_bits_Len64_Q (x_ : Int) (r : Int) (p : Out × St) : Prop := (∀ i, p.1 ≠ .exit i) ∧ finF F170 [.d (.int .u64 x_)] p.2 = some (.i r, [.d (.int .u64 x_)])
theorem math_bits_Len64_j18_ok (x_ : Int) (x0 : Int) (n2 : Int) (r : Int) (h : math_bits_Len64_j18 x0 n2 = some r) : Runs L F170b18 (math_bits_Len64_h18 x0 n2) (math_bits_Len64_Q x_ r) := by
 unfold math_bits_Len64_j18 at h
 refine Sq <| Sq <| Ro <| Rc 2 [⟨.d (.int .u64 x0), []⟩, vb (decide (x0 ≥ 256))] <| Rk ?_
 cases hb_3 : ((decide (x0 ≥ 256)) : Bool) with
 | true =>
  replace h := ite_t hb_3 h
  refine Ct <| Sq <| Ro <| Rc 3 [⟨.d (.int .u64 x0), []⟩, ⟨.d (.int .u64 (shrI .u64 x0 8)), []⟩, ⟨.d (.int .u64 (shrI .u64 x0 8)), []⟩] <| Rk <| Ro <| Rc 3 [vi n2, vi (IntKind.wrap .i64 (n2 + 8)), vi (IntKind.wrap .i64 (n2 + 8))] <| Rk <| Sq <| Ro <| Rc 3 [vi (IntKind.wrap .i64 (n2 + 8)), ⟨.d (.int .u64 (shrI .u64 x0 8)), []⟩, vy (IntKind.wrap .u8 (shrI .u64 x0 8))] ?_
  obtain ⟨z_1, hz_1, h⟩ := bind_s h
  refine Rt (some 22) .indexS [] none [.d (.str ([0, 1, 2, 2, 3, 3, 3, 3, 4, 4, 4, 4, 4, 4, 4, 4, 5, 5, 5, 5, 5, 5, 5, 5, 5, 5, 5, 5, 5, 5, 5, 5, 6, 6, 6, 6, 6, 6, 6, 6, 6, 6, 6, 6, 6, 6, 6, 6, 6, 6, 6, 6, 6, 6, 6, 6, 6, 6, 6, 6, 6, 6, 6, 6, 7, 7, 7, 7, 7, 7, 7, 7, 7, 7, 7, 7, 7, 7, 7, 7, 7, 7, 7, 7, 7, 7, 7, 7, 7, 7, 7, 7, 7, 7, 7, 7, 7, 7, 7, 7, 7, 7, 7, 7, 7, 7, 7, 7, 7, 7, 7, 7, 7, 7, 7, 7, 7, 7, 7, 7, 7, 7, 7, 7, 7, 7, 7, 7, 8, 8, 8, 8, 8, 8, 8, 8, 8, 8, 8, 8, 8, 8, 8, 8, 8, 8, 8, 8, 8, 8, 8, 8, 8, 8, 8, 8, 8, 8, 8, 8, 8, 8, 8, 8, 8, 8, 8, 8, 8, 8, 8, 8, 8, 8, 8, 8, 8, 8, 8, 8, 8, 8, 8, 8, 8, 8, 8, 8, 8, 8, 8, 8, 8, 8, 8, 8, 8, 8, 8, 8, 8, 8, 8, 8, 8, 8, 8, 8, 8, 8, 8, 8, 8, 8, 8, 8, 8, 8, 8, 8, 8, 8, 8, 8, 8, 8, 8, 8, 8, 8, 8, 8, 8, 8, 8, 8, 8, 8, 8, 8, 8, 8, 8, 8, 8, 8, 8, 8, 8, 8, 8, 8, 8, 8, 8, 8] : List UInt8)), .y (IntKind.wrap .u8 (shrI .u64 x0 8))] (.y (z_1.toNat : Int)) [] (cut_ixS hz_1) <| Rc 3 [vi (IntKind.wrap .i64 (z_1.toNat : Int)), vi (IntKind.wrap .i64 ((IntKind.wrap .i64 (n2 + 8)) + (IntKind.wrap .i64 (z_1.toNat : Int)))), vi (IntKind.wrap .i64 ((IntKind.wrap .i64 (n2 + 8)) + (IntKind.wrap .i64 (z_1.toNat : Int))))] <| Rk <| Runs.ret ?_
  cases h
  exact Fq
 | false =>
  replace h := ite_f hb_3 h
  refine Cf <| Runs.skip <| kS_nrm <| Sq <| Ro <| Rc 3 [vi n2, ⟨.d (.int .u64 x0), []⟩, vy (IntKind.wrap .u8 x0)] ?_
  obtain ⟨z_2, hz_2, h⟩ := bind_s h
  refine Rt (some 22) .indexS [] none [.d (.str ([0, 1, 2, 2, 3, 3, 3, 3, 4, 4, 4, 4, 4, 4, 4, 4, 5, 5, 5, 5, 5, 5, 5, 5, 5, 5, 5, 5, 5, 5, 5, 5, 6, 6, 6, 6, 6, 6, 6, 6, 6, 6, 6, 6, 6, 6, 6, 6, 6, 6, 6, 6, 6, 6, 6, 6, 6, 6, 6, 6, 6, 6, 6, 6, 7, 7, 7, 7, 7, 7, 7, 7, 7, 7, 7, 7, 7, 7, 7, 7, 7, 7, 7, 7, 7, 7, 7, 7, 7, 7, 7, 7, 7, 7, 7, 7, 7, 7, 7, 7, 7, 7, 7, 7, 7, 7, 7, 7, 7, 7, 7, 7, 7, 7, 7, 7, 7, 7, 7, 7, 7, 7, 7, 7, 7, 7, 7, 7, 8, 8, 8, 8, 8, 8, 8, 8, 8, 8, 8, 8, 8, 8, 8, 8, 8, 8, 8, 8, 8, 8, 8, 8, 8, 8, 8, 8, 8, 8, 8, 8, 8, 8, 8, 8, 8, 8, 8, 8, 8, 8, 8, 8, 8, 8, 8, 8, 8, 8, 8, 8, 8, 8, 8, 8, 8, 8, 8, 8, 8, 8, 8, 8, 8, 8, 8, 8, 8, 8, 8, 8, 8, 8, 8, 8, 8, 8, 8, 8, 8, 8, 8, 8, 8, 8, 8, 8, 8, 8, 8, 8, 8, 8, 8, 8, 8, 8, 8, 8, 8, 8, 8, 8, 8, 8, 8, 8, 8, 8, 8, 8, 8, 8, 8, 8, 8, 8, 8, 8, 8, 8, 8, 8, 8, 8, 8, 8] : List UInt8)), .y (IntKind.wrap .u8 x0)] (.y (z_2.toNat : Int)) [] (cut_ixS hz_2) <| Rc 3 [vi (IntKind.wrap .i64 (z_2.toNat : Int)), vi (IntKind.wrap .i64 (n2 + (IntKind.wrap .i64 (z_2.toNat : Int)))), vi (IntKind.wrap .i64 (n2 + (IntKind.wrap .i64 (z_2.toNat : Int))))] <| Rk <| Runs.ret ?_
  cases h
  exact Fq
theorem math_bits_Len64_j10_ok (x_ : Int) (x0 : Int) (n2 : Int) (r : Int) (h : math_bits_Len64_j10 x0 n2 = some r) : Runs L F170b10 (math_bits_Len64_h10 x0 n2) (math_bits_Len64_Q x_ r) := by
 unfold math_bits_Len64_j10 at h
 refine Sq <| Sq <| Ro <| Rc 2 [⟨.d (.int .u64 x0), []⟩, vb (decide (x0 ≥ 65536))] <| Rk ?_
 cases hb_2 : ((decide (x0 ≥ 65536)) : Bool) with
 | true =>
  replace h := ite_t hb_2 h
  refine Ct <| Sq <| Ro <| Rc 3 [⟨.d (.int .u64 x0), []⟩, ⟨.d (.int .u64 (shrI .u64 x0 16)), []⟩, ⟨.d (.int .u64 (shrI .u64 x0 16)), []⟩] <| Rk <| Ro <| Rc 3 [vi n2, vi (IntKind.wrap .i64 (n2 + 16)), vi (IntKind.wrap .i64 (n2 + 16))] <| Rk <| Runs.canon (math_bits_Len64_h18 (shrI .u64 x0 16) (IntKind.wrap .i64 (n2 + 16))) Cz ?_
  exact math_bits_Len64_j18_ok x_ (shrI .u64 x0 16) (IntKind.wrap .i64 (n2 + 16)) r h
 | false =>
  replace h := ite_f hb_2 h
  refine Cf <| Runs.skip <| kS_nrm <| Runs.canon (math_bits_Len64_h18 x0 n2) Cz ?_
  exact math_bits_Len64_j18_ok x_ x0 n2 r h
theorem math_bits_Len64_ok (x_ : Int) (r : Int) (h : math_bits_Len64 x_ = some r) : Runs L F170.body ⟨tmOf [.d (.int .u64 x_)] 0, updW (fun _ => none) []⟩ (math_bits_Len64_Q x_ r) := by
 unfold math_bits_Len64 at h
 refine Sq <| Ro <| Rc 1 [vi 0] <| Rk <| Sq <| Sq <| Ro <| Rc 2 [⟨.d (.int .u64 x_), []⟩, vb (decide (x_ ≥ 4294967296))] <| Rk ?_
 cases hb_1 : ((decide (x_ ≥ 4294967296)) : Bool) with
 | true =>
  replace h := ite_t hb_1 h
  refine Ct <| Sq <| Ro <| Rc 3 [⟨.d (.int .u64 x_), []⟩, ⟨.d (.int .u64 (shrI .u64 x_ 32)), []⟩, ⟨.d (.int .u64 (shrI .u64 x_ 32)), []⟩] <| Rk <| Ro <| Rc 1 [vi 32] <| Rk <| Runs.canon (math_bits_Len64_h10 (shrI .u64 x_ 32) 32) Cz ?_
  exact math_bits_Len64_j10_ok x_ (shrI .u64 x_ 32) 32 r h
 | false =>
  replace h := ite_f hb_1 h
  refine Cf <| Runs.skip <| kS_nrm <| Runs.canon (math_bits_Len64_h10 x_ 0) Cz ?_
  exact math_bits_Len64_j10_ok x_ x_ 0 r h
theorem math_bits_Len64_L (x_ : Int) (r : Int) (h : math_bits_Len64 x_ = some r) : L 170 [.d (.int .u64 x_)] = some (.i r, [.d (.int .u64 x_)]) := by
 obtain ⟨p, ⟨hne, hf⟩, hr⟩ := math_bits_Len64_ok x_ r h
 obtain ⟨k, hk⟩ := run_of (F := F170) (args := [.d (.int .u64 x_)]) (ap := [.d (.int .u64 x_)]) (bx0 := updW (fun _ => none) []) rfl rfl (by kernel_rfl) ⟨p, ⟨hne, hf⟩, hr⟩
 exact lim_run (k := k) rfl hk
def math_bits_Len_Q (x_ : Int) (r : Int) (p : Out × St) : Prop := (∀ i, p.1 ≠ .exit i) ∧ finF F136 [.d (.int .u64 x_)] p.2 = some (.i r, [.d (.int .u64 x_)])
theorem math_bits_Len_ok (x_ : Int) (r : Int) (h : math_bits_Len x_ = some r) : Runs L F136.body ⟨tmOf [.d (.int .u64 x_)] 0, updW (fun _ => none) []⟩ (math_bits_Len_Q x_ r) := by
 unfold math_bits_Len at h
 refine Sq <| Ro <| Rc 1 [vi 0] <| Rk <| Sq <| Cf <| Runs.skip <| kS_nrm <| Sq <| Ro <| Rc 1 [⟨.d (.int .u64 x_), []⟩] ?_
 obtain ⟨r_1, hr_1, h⟩ := bind_s h
 have hc_1 := math_bits_Len64_L x_ r_1 hr_1
 refine Rt (some 7) (.callf 170) [] none [.d (.int .u64 x_)] (.i r_1) [] (cc hc_1) <| Rc 1 [vi r_1] <| Rk <| Runs.ret ?_
 cases h
 exact Fq
theorem math_bits_Len_L (x_ : Int) (r : Int) (h : math_bits_Len x_ = some r) : L 136 [.d (.int .u64 x_)] = some (.i r, [.d (.int .u64 x_)]) := by
 obtain ⟨p, ⟨hne, hf⟩, hr⟩ := math_bits_Len_ok x_ r h
 obtain ⟨k, hk⟩ := run_of (F := F136) (args := [.d (.int .u64 x_)]) (ap := [.d (.int .u64 x_)]) (bx0 := updW (fun _ => none) []) rfl rfl (by kernel_rfl) ⟨p, ⟨hne, hf⟩, hr⟩
 exact lim_run (k := k) rfl hk
def cmp_isNaN_int_Q (x_ : Int) (r : Bool) (p : Out × St) : Prop := (∀ i, p.1 ≠ .exit i) ∧ finF F183 [.i x_] p.2 = some (.b r, [.i x_])
theorem cmp_isNaN_int_ok (x_ : Int) (r : Bool) (h : cmp_isNaN_int x_ = some r) : Runs L F183.body ⟨tmOf [.i x_] 0, updW (fun _ => none) []⟩ (cmp_isNaN_int_Q x_ r) := by
 unfold cmp_isNaN_int at h
 refine Sq <| Ro <| Rc 1 [vb false] <| Rk <| Sq <| Ro <| Rc 4 [vi x_, vi x_, vb (x_ != x_), vb (x_ != x_)] <| Rk <| Runs.ret ?_
 cases h
 exact Fq
theorem cmp_isNaN_int_L (x_ : Int) (r : Bool) (h : cmp_isNaN_int x_ = some r) : L 183 [.i x_] = some (.b r, [.i x_]) := by
 obtain ⟨p, ⟨hne, hf⟩, hr⟩ := cmp_isNaN_int_ok x_ r h
 obtain ⟨k, hk⟩ := run_of (F := F183) (args := [.i x_]) (ap := [.i x_]) (bx0 := updW (fun _ => none) []) rfl rfl (by kernel_rfl) ⟨p, ⟨hne, hf⟩, hr⟩
 exact lim_run (k := k) rfl hk
def cmp_Less_int_Q (x_ : Int) (y_ : Int) (r : Bool) (p : Out × St) : Prop := (∀ i, p.1 ≠ .exit i) ∧ finF F166 [.i x_, .i y_] p.2 = some (.b r, [.i x_, .i y_])
theorem cmp_Less_int_ok (x_ : Int) (y_ : Int) (r : Bool) (h : cmp_Less_int x_ y_ = some r) : Runs L F166.body ⟨tmOf [.i x_, .i y_] 0, updW (fun _ => none) []⟩ (cmp_Less_int_Q x_ y_ r) := by
 unfold cmp_Less_int at h
 refine Sq <| Ro <| Rc 1 [vb false] <| Rk <| Sq <| Ro <| Rc 1 [vi x_] ?_
 obtain ⟨r_1, hr_1, h⟩ := bind_s h
 have hc_1 := cmp_isNaN_int_L x_ r_1 hr_1
 refine Rt (some 6) (.callf 183) [] none [.i x_] (.b r_1) [] (cc hc_1) <| Rc 1 [vb r_1] ?_
 cases hb_1 : (r_1 : Bool) with
 | true =>
  replace h := ite_t hb_1 h
  refine Rc 1 [vi y_] ?_
  obtain ⟨r_2, hr_2, h⟩ := bind_s h
  have hc_2 := cmp_isNaN_int_L y_ r_2 hr_2
  refine Rt (some 9) (.callf 183) [] none [.i y_] (.b r_2) [] (cc hc_2) <| Rc 3 [vb (!r_2), vb (!r_2), vb (!r_2)] ?_
  cases hb_2 : ((!r_2) : Bool) with
  | true =>
   replace h := ite_t hb_2 h
   refine Rc 5 [vn, vn, vn, vb true, vb true] <| Rk <| Runs.ret ?_
   cases h
   exact Fq
  | false =>
   replace h := ite_f hb_2 h
   refine Rc 5 [vi x_, vi y_, vb (decide (x_ < y_)), vb (decide (x_ < y_)), vb (decide (x_ < y_))] <| Rk <| Runs.ret ?_
   cases h
   exact Fq
 | false =>
  replace h := ite_f hb_1 h
  refine Rc 10 [vn, vn, vn, vb false, vb false, vi x_, vi y_, vb (decide (x_ < y_)), vb (decide (x_ < y_)), vb (decide (x_ < y_))] <| Rk <| Runs.ret ?_
  cases h
  exact Fq
theorem cmp_Less_int_L (x_ : Int) (y_ : Int) (r : Bool) (h : cmp_Less_int x_ y_ = some r) : L 166 [.i x_, .i y_] = some (.b r, [.i x_, .i y_]) := by
 obtain ⟨p, ⟨hne, hf⟩, hr⟩ := cmp_Less_int_ok x_ y_ r h
 obtain ⟨k, hk⟩ := run_of (F := F166) (args := [.i x_, .i y_]) (ap := [.i x_, .i y_]) (bx0 := updW (fun _ => none) []) rfl rfl (by kernel_rfl) ⟨p, ⟨hne, hf⟩, hr⟩
 exact lim_run (k := k) rfl hk
def slices_insertionSortOrdered_int_h3 (data_ : (List Int)) (w_data_ : (List Int)) (a1 : Int) (b2 : Int) (i6 : Int) : St := ⟨tab [(0, .ref [0] 0 0 (List.map (D.int .i64) w_data_).length 1), (1, .i a1), (2, .i b2), (6, .i i6)], tabB [([0], some (.arr (List.map (D.int .i64) w_data_) 0 false))]⟩
def slices_insertionSortOrdered_int_h15n (data_ : (List Int)) (w_data_ : (List Int)) (a1 : Int) (b2 : Int) (i6 : Int) (j7 : Int) (n_0 : Nat) : St := ⟨tab [(0, .ref [0] 0 0 n_0 1), (1, .i a1), (2, .i b2), (6, .i i6), (7, .i j7)], tabB [([0], some (.arr (List.map (D.int .i64) w_data_) 0 false))]⟩
def slices_insertionSortOrdered_int_h15 (data_ : (List Int)) (w_data_ : (List Int)) (a1 : Int) (b2 : Int) (i6 : Int) (j7 : Int) : St := slices_insertionSortOrdered_int_h15n data_ w_data_ a1 b2 i6 j7 (List.map (D.int .i64) w_data_).length
def slices_insertionSortOrdered_int_h26 (data_ : (List Int)) (w_data_ : (List Int)) (a1 : Int) (b2 : Int) (i6 : Int) : St := ⟨tab [(0, .ref [0] 0 0 (List.map (D.int .i64) w_data_).length 1), (1, .i a1), (2, .i b2), (6, .i i6)], tabB [([0], some (.arr (List.map (D.int .i64) w_data_) 0 false))]⟩
def slices_insertionSortOrdered_int_h27 (data_ : (List Int)) (w_data_ : (List Int)) : St := ⟨tab [], tabB [([0], some (.arr (List.map (D.int .i64) w_data_) 0 false))]⟩
def slices_insertionSortOrdered_int_Q (data_ : (List Int)) (a_ : Int) (b_ : Int) (r : (List Int)) (p : Out × St) : Prop := (∀ i, p.1 ≠ .exit i) ∧ finF F160 [.ref [0] 0 0 (List.map (D.int .i64) data_).length 1, .i a_, .i b_] p.2 = some (.tup [], [.arr false 1 (List.map (D.int .i64) r), .i a_, .i b_])
def slices_insertionSortOrdered_int_P15 (data_ : (List Int)) (a_ : Int) (b_ : Int) (data_ : (List Int)) (a1 : Int) (b2 : Int) (i6 : Int) (e : (List Int)) (p : Out × St) : Prop := p.1 = .exit 2 ∧ ∃ g : Unit, Canon [] [0, 1, 2, 6] [[0]] p.2 (slices_insertionSortOrdered_int_h26 data_ e a1 b2 i6)
def slices_insertionSortOrdered_int_P3 (data_ : (List Int)) (a_ : Int) (b_ : Int) (data_ : (List Int)) (a1 : Int) (b2 : Int) (e : (List Int)) (p : Out × St) : Prop := p.1 = .exit 0 ∧ ∃ g : Unit, Canon [] [] [[0]] p.2 (slices_insertionSortOrdered_int_h27 data_ e)
theorem slices_insertionSortOrdered_int_l15_ok (data_ : (List Int)) (a_ : Int) (b_ : Int) (data_ : (List Int)) (w_data_ : (List Int)) (a1 : Int) (b2 : Int) (i6 : Int) (j7 : Int) (r : (Lp ((List Int) × Int) (List Int))) (h : slices_insertionSortOrdered_int_l15 data_ w_data_ a1 b2 i6 j7 = some r) : Runs L F160l15 (slices_insertionSortOrdered_int_h15 data_ w_data_ a1 b2 i6 j7) (LQ [] [0, 1, 2, 6, 7] [[0]] (fun (x : ((List Int) × Int)) (g : Unit) => slices_insertionSortOrdered_int_h15 data_ x.1 a1 b2 i6 x.2) (slices_insertionSortOrdered_int_P15 data_ a_ b_ data_ a1 b2 i6) r) := by
 unfold slices_insertionSortOrdered_int_l15 at h
 refine Sq <| Sq <| Ro <| Rc 4 [vi j7, vi a1, vb (decide (j7 > a1)), vb (decide (j7 > a1))] ?_
 cases hb_2 : ((decide (j7 > a1)) : Bool) with
 | true =>
  replace h := ite_t hb_2 h
  refine Rc 2 [⟨.ref [0] 0 0 (List.map (D.int .i64) w_data_).length 1, []⟩, vi j7] ?_
  obtain ⟨z_1, hz_1, h⟩ := bind_s h
  refine Rt (some 22) (.iaddrS 1) [] none [.ref [0] 0 0 (List.map (D.int .i64) w_data_).length 1, .i j7] (.eref [0] 0 (0 + (j7).toNat) 0) [] (cut_atR (e := (D.int .i64)) (l := w_data_) hz_1 rfl) <| Rt (some 23) (.load none) [] none [.eref [0] 0 (0 + (j7).toNat) 0] (.i z_1) [] (cut_loadR (e := (D.int .i64)) (l := w_data_) (fz := false) (y := z_1) (by kernel_rfl) hz_1 (by kernel_rfl) (by kernel_rfl)) <| Rc 3 [⟨.ref [0] 0 0 (List.map (D.int .i64) w_data_).length 1, []⟩, vi j7, vi (IntKind.wrap .i64 (j7 - 1))] ?_
  obtain ⟨z_2, hz_2, h⟩ := bind_s h
  refine Rt (some 27) (.iaddrS 1) [] none [.ref [0] 0 0 (List.map (D.int .i64) w_data_).length 1, .i (IntKind.wrap .i64 (j7 - 1))] (.eref [0] 0 (0 + ((IntKind.wrap .i64 (j7 - 1))).toNat) 0) [] (cut_atR (e := (D.int .i64)) (l := w_data_) hz_2 rfl) <| Rt (some 28) (.load none) [] none [.eref [0] 0 (0 + ((IntKind.wrap .i64 (j7 - 1))).toNat) 0] (.i z_2) [] (cut_loadR (e := (D.int .i64)) (l := w_data_) (fz := false) (y := z_2) (by kernel_rfl) hz_2 (by kernel_rfl) (by kernel_rfl)) ?_
  obtain ⟨r_1, hr_1, h⟩ := bind_s h
  have hc_1 := cmp_Less_int_L z_1 z_2 r_1 hr_1
  refine Rt (some 29) (.callf 166) [] none [.i z_1, .i z_2] (.b r_1) [] (cc hc_1) <| Rc 1 [vb r_1] <| Rk ?_
  cases hb_3 : (r_1 : Bool) with
  | true =>
   replace h := ite_t hb_3 h
   refine Ct <| Runs.skip <| kS_nrm <| Sq <| Runs.block <| Ro <| Rc 8 [⟨.ref [0] 0 0 (List.map (D.int .i64) w_data_).length 1, []⟩, vi j7, ⟨.ref [0] 0 0 (List.map (D.int .i64) w_data_).length 1, []⟩, vi j7, vi (IntKind.wrap .i64 (j7 - 1)), ⟨.ref [0] 0 0 (List.map (D.int .i64) w_data_).length 1, []⟩, vi j7, vi (IntKind.wrap .i64 (j7 - 1))] ?_
   obtain ⟨z_3, hz_3, h⟩ := bind_s h
   refine Rt (some 41) (.iaddrS 1) [] none [.ref [0] 0 0 (List.map (D.int .i64) w_data_).length 1, .i (IntKind.wrap .i64 (j7 - 1))] (.eref [0] 0 (0 + ((IntKind.wrap .i64 (j7 - 1))).toNat) 0) [] (cut_atR (e := (D.int .i64)) (l := w_data_) hz_3 rfl) <| Rt (some 42) (.load none) [] none [.eref [0] 0 (0 + ((IntKind.wrap .i64 (j7 - 1))).toNat) 0] (.i z_3) [] (cut_loadR (e := (D.int .i64)) (l := w_data_) (fz := false) (y := z_3) (by kernel_rfl) hz_3 (by kernel_rfl) (by kernel_rfl)) <| Rc 2 [⟨.ref [0] 0 0 (List.map (D.int .i64) w_data_).length 1, []⟩, vi j7] ?_
   obtain ⟨z_4, hz_4, h⟩ := bind_s h
   refine Rt (some 45) (.iaddrS 1) [] none [.ref [0] 0 0 (List.map (D.int .i64) w_data_).length 1, .i j7] (.eref [0] 0 (0 + (j7).toNat) 0) [] (cut_atR (e := (D.int .i64)) (l := w_data_) hz_4 rfl) <| Rt (some 46) (.load none) [] none [.eref [0] 0 (0 + (j7).toNat) 0] (.i z_4) [] (cut_loadR (e := (D.int .i64)) (l := w_data_) (fz := false) (y := z_4) (by kernel_rfl) hz_4 (by kernel_rfl) (by kernel_rfl)) ?_
   obtain ⟨z_5, hz_5, h⟩ := bind_s h
   refine Rt (some 47) (.iaddrS 1) [] none [.ref [0] 0 0 (List.map (D.int .i64) w_data_).length 1, .i j7] (.eref [0] 0 (0 + (j7).toNat) 0) [] (cut_atR (e := (D.int .i64)) (l := w_data_) hz_5 rfl) <| Rt none (.store 1) [] none [.eref [0] 0 (0 + (j7).toNat) 0, .i z_3] (.tup []) [([0], some (.arr (List.map (D.int .i64) (List.set w_data_ (j7).toNat z_3)) 0 false))] (cut_setR (e := (D.int .i64)) (l := w_data_) (y := z_5) (y' := z_3) (ds := [.int .i64 z_3]) (by kernel_rfl) hz_5 (by kernel_rfl) (by kernel_rfl) (by kernel_rfl) (by kernel_rfl)) ?_
   obtain ⟨z_6, hz_6, h⟩ := bind_s h
   refine Rt (some 48) (.iaddrS 1) [] none [.ref [0] 0 0 (List.map (D.int .i64) w_data_).length 1, .i (IntKind.wrap .i64 (j7 - 1))] (.eref [0] 0 (0 + ((IntKind.wrap .i64 (j7 - 1))).toNat) 0) [] (cut_atR (e := (D.int .i64)) (l := (List.set w_data_ (j7).toNat z_3)) hz_6 (by simp only [List.length_map, List.length_set, cpy_length] : (List.map (D.int .i64) w_data_).length = (List.map (D.int .i64) (List.set w_data_ (j7).toNat z_3)).length)) <| Rt none (.store 1) [] none [.eref [0] 0 (0 + ((IntKind.wrap .i64 (j7 - 1))).toNat) 0, .i z_4] (.tup []) [([0], some (.arr (List.map (D.int .i64) (List.set (List.set w_data_ (j7).toNat z_3) ((IntKind.wrap .i64 (j7 - 1))).toNat z_4)) 0 false))] (cut_setR (e := (D.int .i64)) (l := (List.set w_data_ (j7).toNat z_3)) (y := z_6) (y' := z_4) (ds := [.int .i64 z_4]) (by kernel_rfl) hz_6 (by kernel_rfl) (by kernel_rfl) (by kernel_rfl) (by kernel_rfl)) <| Rd <| kB_nrm <| kS_nrm <| Ro <| Rc 3 [vi j7, vi (IntKind.wrap .i64 (j7 - 1)), vi (IntKind.wrap .i64 (j7 - 1))] <| Rd ?_
   obtain rfl := sj h
   exact ⟨rfl, (), (Canon.len (f := fun n => slices_insertionSortOrdered_int_h15n data_ (List.set (List.set w_data_ (j7).toNat z_3) ((IntKind.wrap .i64 (j7 - 1))).toNat z_4) a1 b2 i6 (IntKind.wrap .i64 (j7 - 1)) n) ((by simp only [List.length_map, List.length_set, cpy_length] : (List.map (D.int .i64) w_data_).length = (List.map (D.int .i64) (List.set (List.set w_data_ (j7).toNat z_3) ((IntKind.wrap .i64 (j7 - 1))).toNat z_4)).length)).symm Cz)⟩
  | false =>
   replace h := ite_f hb_3 h
   refine Cf <| Runs.exit <| kS_exit ?_
   obtain rfl := sj h
   exact ⟨nofun, rfl, (), Cz⟩
 | false =>
  replace h := ite_f hb_2 h
  refine Rc 11 [vn, vn, vn, vn, vn, vn, vn, vn, vn, vn, vb false] <| Rk <| Cf <| Runs.exit <| kS_exit ?_
  obtain rfl := sj h
  exact ⟨nofun, rfl, (), Cz⟩
theorem slices_insertionSortOrdered_int_l3_ok (data_ : (List Int)) (a_ : Int) (b_ : Int) (data_ : (List Int)) (w_data_ : (List Int)) (a1 : Int) (b2 : Int) (i6 : Int) (r : (Lp ((List Int) × Int) (List Int))) (h : slices_insertionSortOrdered_int_l3 data_ w_data_ a1 b2 i6 = some r) : Runs L F160l3 (slices_insertionSortOrdered_int_h3 data_ w_data_ a1 b2 i6) (LQ [] [0, 1, 2, 6] [[0]] (fun (x : ((List Int) × Int)) (g : Unit) => slices_insertionSortOrdered_int_h3 data_ x.1 a1 b2 x.2) (slices_insertionSortOrdered_int_P3 data_ a_ b_ data_ a1 b2) r) := by
 unfold slices_insertionSortOrdered_int_l3 at h
 refine Sq <| Sq <| Ro <| Rc 3 [vi i6, vi b2, vb (decide (i6 < b2))] <| Rk ?_
 cases hb_1 : ((decide (i6 < b2)) : Bool) with
 | true =>
  replace h := ite_t hb_1 h
  refine Ct <| Runs.skip <| kS_nrm <| Sq <| Runs.block <| Sq <| Ro <| Rc 2 [vi i6, vi i6] <| Rk <| Runs.block ?_
  obtain ⟨e_1, he_1, h⟩ := bind_s h
  refine Runs.loop (fun x : ((List Int) × Int) => slices_insertionSortOrdered_int_l15 data_ x.1 a1 b2 i6 x.2) (fun (x : ((List Int) × Int)) (g : Unit) => slices_insertionSortOrdered_int_h15 data_ x.1 a1 b2 i6 x.2) (slices_insertionSortOrdered_int_P15 data_ a_ b_ data_ a1 b2 i6) (fun x g r hr => slices_insertionSortOrdered_int_l15_ok data_ a_ b_ data_ x.1 a1 b2 i6 x.2  r hr) () he_1 Cz ?_
  rintro ⟨o, s⟩ hp
  obtain ⟨ho, g_1, hk_1⟩ := hp
  have ho' : o = .exit 2 := ho
  subst ho'
  refine kB_hit <| kB_nrm <| kS_nrm <| Runs.canon _ hk_1 <| Ro <| Rc 3 [vi i6, vi (IntKind.wrap .i64 (i6 + 1)), vi (IntKind.wrap .i64 (i6 + 1))] <| Rd ?_
  obtain rfl := sj h
  exact ⟨rfl, (), Cz⟩
 | false =>
  replace h := ite_f hb_1 h
  refine Cf <| Runs.exit <| kS_exit ?_
  obtain rfl := sj h
  exact ⟨nofun, rfl, (), Cz⟩
theorem slices_insertionSortOrdered_int_ok (data_ : (List Int)) (a_ : Int) (b_ : Int) (r : (List Int)) (h : slices_insertionSortOrdered_int data_ a_ b_ = some r) : Runs L F160.body ⟨tmOf [.ref [0] 0 0 (List.map (D.int .i64) data_).length 1, .i a_, .i b_] 0, updW (fun _ => none) [([0], some (.arr (List.map (D.int .i64) data_) 0 false))]⟩ (slices_insertionSortOrdered_int_Q data_ a_ b_ r) := by
 unfold slices_insertionSortOrdered_int at h
 refine Sq <| Sq <| Sq <| Ro <| Rc 3 [vi a_, vi (IntKind.wrap .i64 (a_ + 1)), vi (IntKind.wrap .i64 (a_ + 1))] <| Rk <| Runs.block ?_
 obtain ⟨e_1, he_1, h⟩ := bind_s h
 refine Runs.loop (fun x : ((List Int) × Int) => slices_insertionSortOrdered_int_l3 data_ x.1 a_ b_ x.2) (fun (x : ((List Int) × Int)) (g : Unit) => slices_insertionSortOrdered_int_h3 data_ x.1 a_ b_ x.2) (slices_insertionSortOrdered_int_P3 data_ a_ b_ data_ a_ b_) (fun x g r hr => slices_insertionSortOrdered_int_l3_ok data_ a_ b_ data_ x.1 a_ b_ x.2  r hr) () he_1 Cz ?_
 rintro ⟨o, s⟩ hp
 obtain ⟨ho, g_1, hk_1⟩ := hp
 have ho' : o = .exit 0 := ho
 subst ho'
 refine kB_hit <| kS_nrm <| Runs.canon _ hk_1 <| Runs.skip <| kS_nrm <| Runs.gnil ?_
 by_cases hlw0 : e_1.length = data_.length
 case neg => rw [if_neg hlw0] at h; cases h
 rw [if_pos hlw0] at h
 obtain rfl := sj h
 exact ⟨Out.nrm_ne, (fin_ofL (rs := []) (by kernel_rfl) (map_cons_ (lendP_of (fz := false) (es := List.map (D.int .i64) e_1) (by kernel_rfl) (by rw [List.length_map, List.length_map, hlw0] : (List.map (D.int .i64) data_).length = (List.map (D.int .i64) e_1).length) (by decide)) (map_cons_ rfl (map_cons_ rfl map_nil_))) (by kernel_rfl) outs_nil (gives_cons (give_lref (fz := false) (es := List.map (D.int .i64) e_1) (by kernel_rfl) (by rw [List.length_map, List.length_map, hlw0] : (List.map (D.int .i64) data_).length = (List.map (D.int .i64) e_1).length) (by kernel_rfl) (by decide)) (gives_cons (give_same (by kernel_rfl)) (gives_cons (give_same (by kernel_rfl)) gives_nil))))⟩
theorem slices_insertionSortOrdered_int_L (data_ : (List Int)) (a_ : Int) (b_ : Int) (r : (List Int)) (h : slices_insertionSortOrdered_int data_ a_ b_ = some r) : L 160 [.arr false 1 (List.map (D.int .i64) data_), .i a_, .i b_] = some (.tup [], [.arr false 1 (List.map (D.int .i64) r), .i a_, .i b_]) := by
 obtain ⟨p, ⟨hne, hf⟩, hr⟩ := slices_insertionSortOrdered_int_ok data_ a_ b_ r h
 obtain ⟨k, hk⟩ := run_of (F := F160) (args := [.arr false 1 (List.map (D.int .i64) data_), .i a_, .i b_]) (ap := [.ref [0] 0 0 (List.map (D.int .i64) data_).length 1, .i a_, .i b_]) (bx0 := updW (fun _ => none) [([0], some (.arr (List.map (D.int .i64) data_) 0 false))]) rfl rfl (by kernel_rfl) ⟨p, ⟨hne, hf⟩, hr⟩
 exact lim_run (k := k) rfl hk
def slices_pdqsortOrdered_int_h5 (data_ : (List Int)) (a1 : Int) (b2 : Int) (limit3 : Int) (wasBalanced8 : Bool) (wasPartitioned9 : Bool) : St := ⟨tab [(0, .ref [0] 0 0 (List.map (D.int .i64) data_).length 1), (1, .i a1), (2, .i b2), (3, .i limit3), (8, .b wasBalanced8), (9, .b wasPartitioned9)], tabB [([0], some (.arr (List.map (D.int .i64) data_) 0 false))]⟩
def slices_pdqsortOrdered_int_Q (data_ : (List Int)) (a_ : Int) (b_ : Int) (limit_ : Int) (r : (List Int)) (p : Out × St) : Prop := (∀ i, p.1 ≠ .exit i) ∧ finF F135 [.ref [0] 0 0 (List.map (D.int .i64) data_).length 1, .i a_, .i b_, .i limit_] p.2 = some (.tup [], [.arr false 1 (List.map (D.int .i64) r), .i a_, .i b_, .i limit_])
def slices_pdqsortOrdered_int_P5 (data_ : (List Int)) (a_ : Int) (b_ : Int) (limit_ : Int) (data_ : (List Int)) (a1 : Int) (b2 : Int) (limit3 : Int) (wasBalanced8 : Bool) (wasPartitioned9 : Bool) (e : (List Int)) (p : Out × St) : Prop := p.1 = .ret ∧ finF F135 [.ref [0] 0 0 (List.map (D.int .i64) data_).length 1, .i a_, .i b_, .i limit_] p.2 = some (.tup [], [.arr false 1 (List.map (D.int .i64) e), .i a_, .i b_, .i limit_])
theorem slices_pdqsortOrdered_int_l5_ok (data_ : (List Int)) (a_ : Int) (b_ : Int) (limit_ : Int) (data_ : (List Int)) (a1 : Int) (b2 : Int) (limit3 : Int) (wasBalanced8 : Bool) (wasPartitioned9 : Bool) (r : (Lp Unit (List Int))) (h : slices_pdqsortOrdered_int_l5 data_ a1 b2 limit3 wasBalanced8 wasPartitioned9 = some r) : Runs L F135l5 (slices_pdqsortOrdered_int_h5 data_ a1 b2 limit3 wasBalanced8 wasPartitioned9) (LQ [] [0, 1, 2, 3, 8, 9] [[0]] (fun (x : Unit) (g : Unit) => slices_pdqsortOrdered_int_h5 data_ a1 b2 limit3 wasBalanced8 wasPartitioned9) (slices_pdqsortOrdered_int_P5 data_ a_ b_ limit_ data_ a1 b2 limit3 wasBalanced8 wasPartitioned9) r) := by
 unfold slices_pdqsortOrdered_int_l5 at h
 refine Runs.block <| Sq <| Ro <| Rc 4 [vi b2, vi a1, vi (IntKind.wrap .i64 (b2 - a1)), vi (IntKind.wrap .i64 (b2 - a1))] <| Rk <| Sq <| Sq <| Ro <| Rc 2 [vi (IntKind.wrap .i64 (b2 - a1)), vb (decide ((IntKind.wrap .i64 (b2 - a1)) ≤ 12))] <| Rk ?_
 cases hb_1 : ((decide ((IntKind.wrap .i64 (b2 - a1)) ≤ 12)) : Bool) with
 | true =>
  replace h := ite_t hb_1 h
  refine Ct <| Sq <| Ro <| Rc 3 [⟨.ref [0] 0 0 (List.map (D.int .i64) data_).length 1, []⟩, vi a1, vi b2] ?_
  obtain ⟨r_1, hr_1, h⟩ := bind_s h
  have hc_1 := slices_insertionSortOrdered_int_L data_ a1 b2 r_1 hr_1
  have hn_1 := lim_len (F := tab1) (X := fun _ _ => none) hc_1 (show tab1 160 = some F160 from by kernel_rfl) rfl 0 rfl (by decide) rfl
  refine Rt (some 27) (.callf 160) [] none [.lref [0] 0 0 (List.map (D.int .i64) data_).length 1, .i a1, .i b2] (.tup []) [([0], some (.arr (List.map (D.int .i64) r_1) 0 false))] (cut_call (call_ofL (ws := []) (us := [([0], some (.arr (List.map (D.int .i64) r_1) 0 false))]) (by kernel_rfl) (map_cons_ (lendX_of (fz := false) (es := List.map (D.int .i64) data_) (by kernel_rfl) (by kernel_rfl) rfl (by decide)) (map_cons_ rfl (map_cons_ rfl map_nil_))) (gives_cons (ws := []) (give_lref (fz := false) (es := List.map (D.int .i64) data_) (by kernel_rfl) rfl (by kernel_rfl) (by decide)) (gives_cons (ws := []) (give_same (by kernel_rfl)) (gives_cons (ws := []) (give_same (by kernel_rfl)) gives_nil))) hc_1 (backs_cons_ (ws := [([0], some (.arr (List.map (D.int .i64) r_1) 0 false))]) (back_lref (f0 := false) (es0 := List.map (D.int .i64) data_) (by kernel_rfl) hn_1) (backs_cons_ (ws := []) (by kernel_rfl) (backs_cons_ (ws := []) (by kernel_rfl) backs_nil_))) (by kernel_rfl))) <| Rk <| Runs.ret <| kS_ret <| kB_ret ?_
  obtain rfl := sj h
  exact ⟨nofun, rfl, (fin_ofL (rs := []) (by kernel_rfl) (map_cons_ (lendP_of (fz := false) (es := List.map (D.int .i64) r_1) (by kernel_rfl) (by simp only [List.length_map, List.length_set, cpy_length] at * <;> omega : (List.map (D.int .i64) data_).length = (List.map (D.int .i64) r_1).length) (by decide)) (map_cons_ rfl (map_cons_ rfl (map_cons_ rfl map_nil_)))) (by kernel_rfl) outs_nil (gives_cons (give_lref (fz := false) (es := List.map (D.int .i64) r_1) (by kernel_rfl) (by simp only [List.length_map, List.length_set, cpy_length] at * <;> omega : (List.map (D.int .i64) data_).length = (List.map (D.int .i64) r_1).length) (by kernel_rfl) (by decide)) (gives_cons (give_same (by kernel_rfl)) (gives_cons (give_same (by kernel_rfl)) (gives_cons (give_same (by kernel_rfl)) gives_nil)))))⟩
 | false =>
  replace h := ite_f hb_1 h
  refine Cf <| Runs.skip <| kS_nrm <| Sq <| Sq <| Ro <| Rc 2 [vi limit3, vb (limit3 == 0)] <| Rk ?_
  cases hb_2 : ((limit3 == 0) : Bool) with
  | true =>
   replace h := ite_t hb_2 h
   refine Ct <| Sq ?_
   cases h
  | false =>
   replace h := ite_f hb_2 h
   refine Cf <| Runs.skip <| kS_nrm <| Sq <| Sq <| Ro <| Rc 2 [vb wasBalanced8, vb (!wasBalanced8)] <| Rk ?_
   cases hb_3 : ((!wasBalanced8) : Bool) with
   | true =>
    replace h := ite_t hb_3 h
    refine Ct <| Sq ?_
    cases h
   | false =>
    replace h := ite_f hb_3 h
    refine Cf <| Runs.skip <| kS_nrm <| Sq ?_
    cases h
theorem slices_pdqsortOrdered_int_ok (data_ : (List Int)) (a_ : Int) (b_ : Int) (limit_ : Int) (r : (List Int)) (h : slices_pdqsortOrdered_int data_ a_ b_ limit_ = some r) : Runs L F135.body ⟨tmOf [.ref [0] 0 0 (List.map (D.int .i64) data_).length 1, .i a_, .i b_, .i limit_] 0, updW (fun _ => none) [([0], some (.arr (List.map (D.int .i64) data_) 0 false))]⟩ (slices_pdqsortOrdered_int_Q data_ a_ b_ limit_ r) := by
 unfold slices_pdqsortOrdered_int at h
 refine Sq <| Sq <| Ro <| Rc 1 [vb true] <| Rk <| Sq <| Ro <| Rc 1 [vb true] <| Rk <| Runs.block ?_
 obtain ⟨e_1, he_1, h⟩ := bind_s h
 refine Runs.loop (fun x : Unit => slices_pdqsortOrdered_int_l5 data_ a_ b_ limit_ true true) (fun (x : Unit) (g : Unit) => slices_pdqsortOrdered_int_h5 data_ a_ b_ limit_ true true) (slices_pdqsortOrdered_int_P5 data_ a_ b_ limit_ data_ a_ b_ limit_ true true) (fun x g r hr => slices_pdqsortOrdered_int_l5_ok data_ a_ b_ limit_ data_ a_ b_ limit_ true true  r hr) () he_1 Cz ?_
 rintro ⟨o, s⟩ hp
 obtain ⟨ho, hf⟩ := hp
 have ho' : o = .ret := ho
 subst ho'
 refine kB_ret <| kS_ret ?_
 obtain rfl := sj h
 exact ⟨Out.ret_ne, hf⟩
theorem slices_pdqsortOrdered_int_L (data_ : (List Int)) (a_ : Int) (b_ : Int) (limit_ : Int) (r : (List Int)) (h : slices_pdqsortOrdered_int data_ a_ b_ limit_ = some r) : L 135 [.arr false 1 (List.map (D.int .i64) data_), .i a_, .i b_, .i limit_] = some (.tup [], [.arr false 1 (List.map (D.int .i64) r), .i a_, .i b_, .i limit_]) := by
 obtain ⟨p, ⟨hne, hf⟩, hr⟩ := slices_pdqsortOrdered_int_ok data_ a_ b_ limit_ r h
 obtain ⟨k, hk⟩ := run_of (F := F135) (args := [.arr false 1 (List.map (D.int .i64) data_), .i a_, .i b_, .i limit_]) (ap := [.ref [0] 0 0 (List.map (D.int .i64) data_).length 1, .i a_, .i b_, .i limit_]) (bx0 := updW (fun _ => none) [([0], some (.arr (List.map (D.int .i64) data_) 0 false))]) rfl rfl (by kernel_rfl) ⟨p, ⟨hne, hf⟩, hr⟩
 exact lim_run (k := k) rfl hk
def slices_Sort_Lint_Q (x_ : (List Int)) (r : (List Int)) (p : Out × St) : Prop := (∀ i, p.1 ≠ .exit i) ∧ finF F106 [.ref [0] 0 0 (List.map (D.int .i64) x_).length 1] p.2 = some (.tup [], [.arr false 1 (List.map (D.int .i64) r)])
theorem slices_Sort_Lint_ok (x_ : (List Int)) (r : (List Int)) (h : slices_Sort_Lint x_ = some r) : Runs L F106.body ⟨tmOf [.ref [0] 0 0 (List.map (D.int .i64) x_).length 1] 0, updW (fun _ => none) [([0], some (.arr (List.map (D.int .i64) x_) 0 false))]⟩ (slices_Sort_Lint_Q x_ r) := by
 unfold slices_Sort_Lint at h
 refine Sq <| Sq <| Ro <| Rc 1 [⟨.ref [0] 0 0 (List.map (D.int .i64) x_).length 1, []⟩] <| Rt (some 4) .lenL [] none [.ref [0] 0 0 (List.map (D.int .i64) x_).length 1] (.i (x_.length : Int)) [] (cut_lenR (e := (D.int .i64)) x_ rfl) <| Rc 1 [vi (x_.length : Int)] <| Rk <| Ro <| Rc 4 [⟨.ref [0] 0 0 (List.map (D.int .i64) x_).length 1, []⟩, vi (x_.length : Int), vi (x_.length : Int), ⟨.d (.int .u64 (IntKind.wrap .u64 (x_.length : Int))), []⟩] ?_
 obtain ⟨r_1, hr_1, h⟩ := bind_s h
 have hc_1 := math_bits_Len_L (IntKind.wrap .u64 (x_.length : Int)) r_1 hr_1
 refine Rt (some 9) (.callf 136) [] none [.d (.int .u64 (IntKind.wrap .u64 (x_.length : Int)))] (.i r_1) [] (cc hc_1) ?_
 obtain ⟨r_2, hr_2, h⟩ := bind_s h
 have hc_2 := slices_pdqsortOrdered_int_L x_ 0 (x_.length : Int) r_1 r_2 hr_2
 have hn_1 := lim_len (F := tab1) (X := fun _ _ => none) hc_2 (show tab1 135 = some F135 from by kernel_rfl) rfl 0 rfl (by decide) rfl
 refine Rt (some 10) (.callf 135) [] none [.lref [0] 0 0 (List.map (D.int .i64) x_).length 1, .i 0, .i (x_.length : Int), .i r_1] (.tup []) [([0], some (.arr (List.map (D.int .i64) r_2) 0 false))] (cut_call (call_ofL (ws := []) (us := [([0], some (.arr (List.map (D.int .i64) r_2) 0 false))]) (by kernel_rfl) (map_cons_ (lendX_of (fz := false) (es := List.map (D.int .i64) x_) (by kernel_rfl) (by kernel_rfl) rfl (by decide)) (map_cons_ rfl (map_cons_ rfl (map_cons_ rfl map_nil_)))) (gives_cons (ws := []) (give_lref (fz := false) (es := List.map (D.int .i64) x_) (by kernel_rfl) rfl (by kernel_rfl) (by decide)) (gives_cons (ws := []) (give_same (by kernel_rfl)) (gives_cons (ws := []) (give_same (by kernel_rfl)) (gives_cons (ws := []) (give_same (by kernel_rfl)) gives_nil)))) hc_2 (backs_cons_ (ws := [([0], some (.arr (List.map (D.int .i64) r_2) 0 false))]) (back_lref (f0 := false) (es0 := List.map (D.int .i64) x_) (by kernel_rfl) hn_1) (backs_cons_ (ws := []) (by kernel_rfl) (backs_cons_ (ws := []) (by kernel_rfl) (backs_cons_ (ws := []) (by kernel_rfl) backs_nil_)))) (by kernel_rfl))) <| Rk <| Runs.gnil ?_
 obtain rfl := sj h
 exact ⟨Out.nrm_ne, (fin_ofL (rs := []) (by kernel_rfl) (map_cons_ (lendP_of (fz := false) (es := List.map (D.int .i64) r_2) (by kernel_rfl) (by simp only [List.length_map, List.length_set, cpy_length] at * <;> omega : (List.map (D.int .i64) x_).length = (List.map (D.int .i64) r_2).length) (by decide)) map_nil_) (by kernel_rfl) outs_nil (gives_cons (give_lref (fz := false) (es := List.map (D.int .i64) r_2) (by kernel_rfl) (by simp only [List.length_map, List.length_set, cpy_length] at * <;> omega : (List.map (D.int .i64) x_).length = (List.map (D.int .i64) r_2).length) (by kernel_rfl) (by decide)) gives_nil))⟩
theorem slices_Sort_Lint_L (x_ : (List Int)) (r : (List Int)) (h : slices_Sort_Lint x_ = some r) : L 106 [.arr false 1 (List.map (D.int .i64) x_)] = some (.tup [], [.arr false 1 (List.map (D.int .i64) r)]) := by
 obtain ⟨p, ⟨hne, hf⟩, hr⟩ := slices_Sort_Lint_ok x_ r h
 obtain ⟨k, hk⟩ := run_of (F := F106) (args := [.arr false 1 (List.map (D.int .i64) x_)]) (ap := [.ref [0] 0 0 (List.map (D.int .i64) x_).length 1]) (bx0 := updW (fun _ => none) [([0], some (.arr (List.map (D.int .i64) x_) 0 false))]) rfl rfl (by kernel_rfl) ⟨p, ⟨hne, hf⟩, hr⟩
 exact lim_run (k := k) rfl hk
def mz_sites_h22 (h4 : Header) (out9 : (List Int)) (b0 : (List Int)) (n2 : Int) (at8 : Int) (v_9 : Nat) : St := ⟨tab [(0, .d (.sl (mY b0))), (2, .i n2), (4, .ptr [4] 0 0), (8, .i at8), (9, .ref [9] v_9 0 (List.map (D.int .i64) out9).length 1)], tabB [([4], some (.cells [.w h4.last, .w h4.pages, .w h4.relocs, .w h4.paras, .w h4.min, .w h4.ss, .w h4.sp, .w h4.ip, .w h4.cs_, .w h4.table] 0)), ([9], some (.arr (List.map (D.int .i64) out9) v_9 false))]⟩
def mz_sites_h26 (out9 : (List Int)) (b0 : (List Int)) (n2 : Int) (at8 : Int) (t45 : Int) (t46 : Int) (v_9 : Nat) : St := ⟨tab [(0, .d (.sl (mY b0))), (2, .i n2), (8, .i at8), (9, .ref [9] v_9 0 (List.map (D.int .i64) out9).length 1), (45, .i t45), (46, .i t46)], tabB [([9], some (.arr (List.map (D.int .i64) out9) v_9 false))]⟩
def mz_sites_h43 (out9 : (List Int)) (n2 : Int) (v_9 : Nat) : St := ⟨tab [(2, .i n2), (9, .ref [9] v_9 0 (List.map (D.int .i64) out9).length 1)], tabB [([9], some (.arr (List.map (D.int .i64) out9) v_9 false))]⟩
def mz_sites_h49n (out9 : (List Int)) (n2 : Int) (t74 : (List Int)) (t75 : Int) (t76 : Int) (v_9 : Nat) (f_9 : Bool) (n_9 : Nat) : St := ⟨tab [(2, .i n2), (9, .ref [9] v_9 0 n_9 1), (74, .d (.sl (List.map (D.int .i64) t74))), (75, .i t75), (76, .i t76)], tabB [([9], some (.arr (List.map (D.int .i64) out9) v_9 f_9))]⟩
def mz_sites_h49 (out9 : (List Int)) (n2 : Int) (t74 : (List Int)) (t75 : Int) (t76 : Int) (v_9 : Nat) (f_9 : Bool) : St := mz_sites_h49n out9 n2 t74 t75 t76 v_9 f_9 (List.map (D.int .i64) out9).length
def mz_sites_h68 (out9 : (List Int)) (v_9 : Nat) (f_9 : Bool) : St := ⟨tab [(9, .ref [9] v_9 0 (List.map (D.int .i64) out9).length 1)], tabB [([9], some (.arr (List.map (D.int .i64) out9) v_9 f_9))]⟩
def mz_sites_Q (b_ : (List Int)) (h_ : Header) (n_ : Int) (r : ((List Int) × Int)) (p : Out × St) : Prop := (∀ i, p.1 ≠ .exit i) ∧ finF F74 [.d (.sl (mY b_)), .d (Header.d h_), .i n_] p.2 = some (.tup [.d (.sl (List.map (D.int .i64) r.1)), .i r.2], [.d (.sl (mY b_)), .d (Header.d h_), .i n_])
def mz_sites_P26 (b_ : (List Int)) (h_ : Header) (n_ : Int) (b0 : (List Int)) (n2 : Int) (at8 : Int) (t45 : Int) (e : (List Int)) (p : Out × St) : Prop := p.1 = .exit 0 ∧ ∃ g : Nat, Canon [] [2, 9] [[9]] p.2 (mz_sites_h43 e n2 g)
def mz_sites_P49 (b_ : (List Int)) (h_ : Header) (n_ : Int) (out9 : (List Int)) (n2 : Int) (t74 : (List Int)) (t75 : Int) (e : (((List Int) × Int) ⊕ Unit)) (p : Out × St) : Prop := match e with
 | .inl x => p.1 = .ret ∧ finF F74 [.d (.sl (mY b_)), .d (Header.d h_), .i n_] p.2 = some (.tup [.d (.sl (List.map (D.int .i64) x.1)), .i x.2], [.d (.sl (mY b_)), .d (Header.d h_), .i n_])
 | .inr x => p.1 = .exit 2 ∧ ∃ g : (Nat × Bool), Canon [] [9] [[9]] p.2 (mz_sites_h68 out9 g.1 g.2)
theorem mz_sites_l26_ok (b_ : (List Int)) (h_ : Header) (n_ : Int) (out9 : (List Int)) (b0 : (List Int)) (n2 : Int) (at8 : Int) (t45 : Int) (t46 : Int) (v_9 : Nat) (r : (Lp ((List Int) × Int) (List Int))) (h : mz_sites_l26 out9 b0 n2 at8 t45 t46 = some r) : Runs L F74l26 (mz_sites_h26 out9 b0 n2 at8 t45 t46 v_9) (LQ [] [0, 2, 8, 9, 45, 46] [[9]] (fun (x : ((List Int) × Int)) (g : Nat) => mz_sites_h26 x.1 b0 n2 at8 t45 x.2 g) (mz_sites_P26 b_ h_ n_ b0 n2 at8 t45) r) := by
 unfold mz_sites_l26 at h
 refine Sq <| Ro <| Rc 1 [vb (decide (t46 < t45))] <| Rk <| Sq ?_
 cases hb_4 : ((decide (t46 < t45)) : Bool) with
 | true =>
  replace h := ite_t hb_4 h
  refine Ct <| Runs.skip <| kS_nrm <| Sq <| Runs.block <| Sq <| Ro <| Rc 2 [vi t46, vi t46] <| Rk <| Sq <| Ro <| Rc 10 [⟨.d (.sl (mY b0)), []⟩, vi at8, vi t46, vi (IntKind.wrap .i64 (4 * t46)), vi (IntKind.wrap .i64 (at8 + (IntKind.wrap .i64 (4 * t46)))), vi at8, vi t46, vi (IntKind.wrap .i64 (4 * t46)), vi (IntKind.wrap .i64 (at8 + (IntKind.wrap .i64 (4 * t46)))), vi (IntKind.wrap .i64 ((IntKind.wrap .i64 (at8 + (IntKind.wrap .i64 (4 * t46)))) + 4))] ?_
  obtain ⟨z_1, hz_1, h⟩ := bind_s h
  refine Rt (some 59) (.subsl 1 true true false) [] none [.d (.sl (mY b0)), .i (IntKind.wrap .i64 (at8 + (IntKind.wrap .i64 (4 * t46)))), .i (IntKind.wrap .i64 ((IntKind.wrap .i64 (at8 + (IntKind.wrap .i64 (4 * t46)))) + 4))] (.d (.sl (mY z_1))) [] (cut_slTT hz_1 (fun _ => rfl)) ?_
  obtain ⟨r_1, hr_1, h⟩ := bind_s h
  have hc_1 := index_From_L z_1 r_1 hr_1
  refine Rt (some 60) (.callf 50) [] none [.d (.sl (mY z_1))] (.ptr [60] 0 0) [([60], some (.cells [.d (.sl (mY r_1.b)), .i r_1.e] 0))] (cc hc_1) <| Rc 1 [vp [60] 0 0] <| Rk <| Sq <| Ro <| Rc 1 [vp [60] 0 0] ?_
  obtain ⟨r_2, hr_2, h⟩ := bind_s h
  have hc_2 := index_Source_Word_L r_1 r_2 hr_2
  refine Rt (some 62) (.callf 64) [] none [.ptr [60] 0 0] (.w r_2.1) [([60], some (.cells [.d (.sl (mY r_2.2.b)), .i r_2.2.e] 0))] (cut_call (call_of (ws := []) (us := [([60], some (.cells [.d (.sl (mY r_2.2.b)), .i r_2.2.e] 0))]) (by kernel_rfl) (by kernel_rfl) hc_2 (by kernel_rfl) (by kernel_rfl))) <| Rc 1 [vw r_2.1] <| Rk <| Ro <| Rc 2 [⟨.ref [9] v_9 0 (List.map (D.int .i64) out9).length 1, []⟩, vp [60] 0 0] ?_
  obtain ⟨r_3, hr_3, h⟩ := bind_s h
  have hc_3 := index_Source_Word_L r_2.2 r_3 hr_3
  refine Rt (some 65) (.callf 64) [] none [.ptr [60] 0 0] (.w r_3.1) [([60], some (.cells [.d (.sl (mY r_3.2.b)), .i r_3.2.e] 0))] (cut_call (call_of (ws := []) (us := [([60], some (.cells [.d (.sl (mY r_3.2.b)), .i r_3.2.e] 0))]) (by kernel_rfl) (by kernel_rfl) hc_3 (by kernel_rfl) (by kernel_rfl))) <| Rc 1 [vw r_2.1] ?_
  obtain ⟨r_4, hr_4, h⟩ := bind_s h
  have hc_4 := bits_Linear_L r_3.1 r_2.1 r_4 hr_4
  refine Rt (some 67) (.callf 105) [] none [.w r_3.1, .w r_2.1] (.u r_4) [] (cc hc_4) <| Rc 2 [vi (IntKind.wrap .i64 r_4), ⟨.ref [69] 0 0 (List.map (D.int .i64) ([(IntKind.wrap .i64 r_4)] : List Int)).length 1, [([69], some (.arr (List.map (D.int .i64) ([(IntKind.wrap .i64 r_4)] : List Int)) 0 false))]⟩] ?_
  obtain ⟨z_2, hz_2, h⟩ := bind_s h
  refine Rt (some 70) (.append 1 8 false) [] none [.ref [9] v_9 0 (List.map (D.int .i64) out9).length 1, .ref [69] 0 0 (List.map (D.int .i64) ([(IntKind.wrap .i64 r_4)] : List Int)).length 1] (.ref [9] (v_9 + 1) 0 (List.map (D.int .i64) z_2).length 1) [([9], some (.arr (List.map (D.int .i64) z_2) (v_9 + 1) false))] (cut_appR (e := (D.int .i64)) (l := out9) (fz := false) (ws := []) (ap_ref (e := (D.int .i64)) (l := ([(IntKind.wrap .i64 r_4)] : List Int)) (fz := false) (by kernel_rfl) (by kernel_rfl) rfl) (fun _ => rfl) hz_2 (by kernel_rfl) (by kernel_rfl) rfl) <| Rc 1 [⟨.ref [9] (v_9 + 1) 0 (List.map (D.int .i64) z_2).length 1, []⟩] <| Rd <| kB_nrm <| kS_nrm <| Ro <| Rc 2 [vi (IntKind.wrap .i64 (t46 + 1)), vi (IntKind.wrap .i64 (t46 + 1))] <| Rd ?_
  obtain rfl := sj h
  exact ⟨rfl, (v_9 + 1), Cz⟩
 | false =>
  replace h := ite_f hb_4 h
  refine Cf <| Runs.exit <| kS_exit ?_
  obtain rfl := sj h
  exact ⟨nofun, rfl, v_9, Cz⟩
theorem mz_sites_l49_ok (b_ : (List Int)) (h_ : Header) (n_ : Int) (out9 : (List Int)) (n2 : Int) (t74 : (List Int)) (t75 : Int) (t76 : Int) (v_9 : Nat) (f_9 : Bool) (r : (Lp Int (((List Int) × Int) ⊕ Unit))) (h : mz_sites_l49 out9 n2 t74 t75 t76 = some r) : Runs L F74l49 (mz_sites_h49 out9 n2 t74 t75 t76 v_9 f_9) (LQ [.frz 74] [2, 9, 74, 75, 76] [[9]] (fun (x : Int) (g : (Nat × Bool)) => mz_sites_h49 out9 n2 t74 t75 x g.1 g.2) (mz_sites_P49 b_ h_ n_ out9 n2 t74 t75) r) := by
 unfold mz_sites_l49 at h
 refine Sq <| Ro <| Rc 1 [vb (decide (t76 < t75))] <| Rk <| Sq ?_
 cases hb_4 : ((decide (t76 < t75)) : Bool) with
 | true =>
  replace h := ite_t hb_4 h
  refine Ct <| Runs.skip <| kS_nrm <| Sq <| Runs.block <| Sq <| Ro <| Rc 1 [vi t76] ?_
  obtain ⟨z_1, hz_1, h⟩ := bind_s h
  refine Rt (some 79) (.iaddrS 1) [] none [.d (.sl (List.map (D.int .i64) t74)), .i t76] (.elt (.int .i64 z_1) 0) [] (cut_at hz_1 (fun _ => rfl)) <| Rc 3 [vi z_1, vi t76, vi z_1] <| Rk <| Sq <| Ro <| Rc 5 [vi z_1, vi n2, vi (IntKind.wrap .i64 (n2 - 2)), vb (decide (z_1 > (IntKind.wrap .i64 (n2 - 2)))), vb (decide (z_1 > (IntKind.wrap .i64 (n2 - 2))))] ?_
  cases hb_5 : ((decide (z_1 > (IntKind.wrap .i64 (n2 - 2)))) : Bool) with
  | true =>
   replace h := ite_t hb_5 h
   refine Rc 13 [vn, vn, vn, vn, vn, vn, vn, vn, vn, vn, vn, vn, vb true] <| Rk <| Ct <| Sq <| Ro <| Rc 2 [⟨.nils, []⟩, vi 3] <| Rk <| Sq <| Runs.gcons (frz_nil (D.int .i64) (by kernel_rfl)) <| Runs.gnil <| kS_nrm <| Runs.ret <| kB_ret <| kS_ret ?_
   obtain rfl := sj h
   exact ⟨nofun, rfl, (by kernel_rfl)⟩
  | false =>
   replace h := ite_f hb_5 h
   refine Rc 3 [vi t76, vb (decide (t76 > 0)), vb (decide (t76 > 0))] ?_
   cases hb_6 : ((decide (t76 > 0)) : Bool) with
   | true =>
    replace h := ite_t hb_6 h
    refine Rc 4 [vi z_1, ⟨.ref [9] v_9 0 (List.map (D.int .i64) out9).length 1, []⟩, vi t76, vi (IntKind.wrap .i64 (t76 - 1))] ?_
    obtain ⟨z_2, hz_2, h⟩ := bind_s h
    refine Rt (some 93) (.iaddrS 1) [] none [.ref [9] v_9 0 (List.map (D.int .i64) out9).length 1, .i (IntKind.wrap .i64 (t76 - 1))] (.eref [9] v_9 (0 + ((IntKind.wrap .i64 (t76 - 1))).toNat) 0) [] (cut_atR (e := (D.int .i64)) (l := out9) hz_2 rfl) <| Rt (some 94) (.load none) [] none [.eref [9] v_9 (0 + ((IntKind.wrap .i64 (t76 - 1))).toNat) 0] (.i z_2) [] (cut_loadR (e := (D.int .i64)) (l := out9) (fz := f_9) (y := z_2) (by kernel_rfl) hz_2 (by kernel_rfl) (by kernel_rfl)) <| Rc 4 [vi (IntKind.wrap .i64 (z_1 - z_2)), vb (decide ((IntKind.wrap .i64 (z_1 - z_2)) < 2)), vb (decide ((IntKind.wrap .i64 (z_1 - z_2)) < 2)), vb (decide ((IntKind.wrap .i64 (z_1 - z_2)) < 2))] <| Rk ?_
    cases hb_7 : ((decide ((IntKind.wrap .i64 (z_1 - z_2)) < 2)) : Bool) with
    | true =>
     replace h := ite_t hb_7 h
     refine Ct <| Sq <| Ro <| Rc 2 [⟨.nils, []⟩, vi 3] <| Rk <| Sq <| Runs.gcons (frz_nil (D.int .i64) (by kernel_rfl)) <| Runs.gnil <| kS_nrm <| Runs.ret <| kB_ret <| kS_ret ?_
     obtain rfl := sj h
     exact ⟨nofun, rfl, (by kernel_rfl)⟩
    | false =>
     replace h := ite_f hb_7 h
     refine Cf <| Runs.skip <| kB_nrm <| kS_nrm <| Ro <| Rc 2 [vi (IntKind.wrap .i64 (t76 + 1)), vi (IntKind.wrap .i64 (t76 + 1))] <| Rd ?_
     obtain rfl := sj h
     exact ⟨rfl, (v_9, f_9), (Canon.same (by kernel_rfl) Cz)⟩
   | false =>
    replace h := ite_f hb_6 h
    refine Rc 10 [vn, vn, vn, vn, vn, vn, vn, vn, vb false, vb false] <| Rk <| Cf <| Runs.skip <| kB_nrm <| kS_nrm <| Ro <| Rc 2 [vi (IntKind.wrap .i64 (t76 + 1)), vi (IntKind.wrap .i64 (t76 + 1))] <| Rd ?_
    obtain rfl := sj h
    exact ⟨rfl, (v_9, f_9), (Canon.same (by kernel_rfl) Cz)⟩
 | false =>
  replace h := ite_f hb_4 h
  refine Cf <| Runs.exit <| kS_exit ?_
  obtain rfl := sj h
  exact ⟨nofun, rfl, (v_9, f_9), Cz⟩
theorem mz_sites_ok (b_ : (List Int)) (h_ : Header) (n_ : Int) (r : ((List Int) × Int)) (h : mz_sites b_ h_ n_ = some r) : Runs L F74.body ⟨tmOf [.d (.sl (mY b_)), .d (Header.d h_), .i n_] 0, updW (fun _ => none) []⟩ (mz_sites_Q b_ h_ n_ r) := by
 unfold mz_sites at h
 refine Sq <| Ro <| Rc 3 [⟨.ptr [4] 0 0, [([4], some (.cells [.w h_.last, .w h_.pages, .w h_.relocs, .w h_.paras, .w h_.min, .w h_.ss, .w h_.sp, .w h_.ip, .w h_.cs_, .w h_.table] 0))]⟩, ⟨.nils, []⟩, vi 0] <| Rk <| Sq <| Ro <| Rc 4 [vp [4] 0 9, vw h_.table, vi (IntKind.wrap .i64 h_.table), vi (IntKind.wrap .i64 h_.table)] <| Rk <| Sq <| Sq <| Ro <| Rc 3 [vp [4] 0 2, vw h_.relocs, vb (decide (h_.relocs > 4000))] <| Rk ?_
 cases hb_1 : ((decide (h_.relocs > 4000)) : Bool) with
 | true =>
  replace h := ite_t hb_1 h
  refine Ct <| Sq <| Ro <| Rc 2 [⟨.nils, []⟩, vi 8] <| Rk <| Sq <| Runs.gcons (frz_nil (D.int .i64) (by kernel_rfl)) <| Runs.gnil <| kS_nrm <| Runs.ret <| kS_ret ?_
  cases h
  exact Fq
 | false =>
  replace h := ite_f hb_1 h
  refine Cf <| Runs.skip <| kS_nrm <| Sq <| Sq <| Ro <| Rc 1 [⟨.d (.sl (mY b_)), []⟩] <| Rt (some 22) .lenL [] none [.d (.sl (mY b_))] (.i (b_.length : Int)) [] (cut_len _) <| Rc 8 [vi (IntKind.wrap .i64 h_.table), vp [4] 0 2, vw h_.relocs, vi (IntKind.wrap .i64 h_.relocs), vi (IntKind.wrap .i64 (4 * (IntKind.wrap .i64 h_.relocs))), vi (IntKind.wrap .i64 ((IntKind.wrap .i64 h_.table) + (IntKind.wrap .i64 (4 * (IntKind.wrap .i64 h_.relocs))))), vb (decide ((b_.length : Int) < (IntKind.wrap .i64 ((IntKind.wrap .i64 h_.table) + (IntKind.wrap .i64 (4 * (IntKind.wrap .i64 h_.relocs))))))), vb (decide ((b_.length : Int) < (IntKind.wrap .i64 ((IntKind.wrap .i64 h_.table) + (IntKind.wrap .i64 (4 * (IntKind.wrap .i64 h_.relocs)))))))] ?_
  cases hb_2 : ((decide ((b_.length : Int) < (IntKind.wrap .i64 ((IntKind.wrap .i64 h_.table) + (IntKind.wrap .i64 (4 * (IntKind.wrap .i64 h_.relocs))))))) : Bool) with
  | true =>
   replace h := ite_t hb_2 h
   refine Rc 12 [vn, vn, vn, vn, vn, vn, vn, vn, vn, vn, vn, vb true] <| Rk <| Ct <| Sq <| Ro <| Rc 2 [⟨.nils, []⟩, vi 2] <| Rk <| Sq <| Runs.gcons (frz_nil (D.int .i64) (by kernel_rfl)) <| Runs.gnil <| kS_nrm <| Runs.ret <| kS_ret ?_
   cases h
   exact Fq
  | false =>
   replace h := ite_f hb_2 h
   refine Rc 12 [vi (IntKind.wrap .i64 h_.table), vp [4] 0 2, vw h_.relocs, vi (IntKind.wrap .i64 h_.relocs), vi (IntKind.wrap .i64 (4 * (IntKind.wrap .i64 h_.relocs))), vi (IntKind.wrap .i64 ((IntKind.wrap .i64 h_.table) + (IntKind.wrap .i64 (4 * (IntKind.wrap .i64 h_.relocs))))), vp [4] 0 3, vw h_.paras, vi (IntKind.wrap .i64 h_.paras), vi (IntKind.wrap .i64 ((IntKind.wrap .i64 h_.paras) * 16)), vb (decide ((IntKind.wrap .i64 ((IntKind.wrap .i64 h_.table) + (IntKind.wrap .i64 (4 * (IntKind.wrap .i64 h_.relocs))))) > (IntKind.wrap .i64 ((IntKind.wrap .i64 h_.paras) * 16)))), vb (decide ((IntKind.wrap .i64 ((IntKind.wrap .i64 h_.table) + (IntKind.wrap .i64 (4 * (IntKind.wrap .i64 h_.relocs))))) > (IntKind.wrap .i64 ((IntKind.wrap .i64 h_.paras) * 16))))] <| Rk ?_
   cases hb_3 : ((decide ((IntKind.wrap .i64 ((IntKind.wrap .i64 h_.table) + (IntKind.wrap .i64 (4 * (IntKind.wrap .i64 h_.relocs))))) > (IntKind.wrap .i64 ((IntKind.wrap .i64 h_.paras) * 16)))) : Bool) with
   | true =>
    replace h := ite_t hb_3 h
    refine Ct <| Sq <| Ro <| Rc 2 [⟨.nils, []⟩, vi 2] <| Rk <| Sq <| Runs.gcons (frz_nil (D.int .i64) (by kernel_rfl)) <| Runs.gnil <| kS_nrm <| Runs.ret <| kS_ret ?_
    cases h
    exact Fq
   | false =>
    replace h := ite_f hb_3 h
    refine Cf <| Runs.skip <| kS_nrm <| Sq <| Ro <| Rc 1 [⟨.nils, []⟩] <| Rk <| Runs.canon (mz_sites_h22 h_ ([] : List Int) b_ n_ (IntKind.wrap .i64 h_.table) 0) (Canon.cons (own_nil (D.int .i64) (v := 0) (by kernel_rfl) (by kernel_rfl)) Cz) <| Sq <| Sq <| Ro <| Rc 4 [vp [4] 0 2, vw h_.relocs, vi (IntKind.wrap .i64 h_.relocs), vi 0] <| Rk <| Runs.block ?_
    obtain ⟨e_1, he_1, h⟩ := bind_s h
    refine Runs.loop (fun x : ((List Int) × Int) => mz_sites_l26 x.1 b_ n_ (IntKind.wrap .i64 h_.table) (IntKind.wrap .i64 h_.relocs) x.2) (fun (x : ((List Int) × Int)) (g : Nat) => mz_sites_h26 x.1 b_ n_ (IntKind.wrap .i64 h_.table) (IntKind.wrap .i64 h_.relocs) x.2 g) (mz_sites_P26 b_ h_ n_ b_ n_ (IntKind.wrap .i64 h_.table) (IntKind.wrap .i64 h_.relocs)) (fun x g r hr => mz_sites_l26_ok b_ h_ n_ x.1 b_ n_ (IntKind.wrap .i64 h_.table) (IntKind.wrap .i64 h_.relocs) x.2 g r hr) 0 he_1 Cz ?_
    rintro ⟨o, s⟩ hp
    obtain ⟨ho, g_1, hk_1⟩ := hp
    have ho' : o = .exit 0 := ho
    subst ho'
    refine kB_hit <| kS_nrm <| Runs.canon _ hk_1 <| Sq <| Ro <| Rc 1 [⟨.ref [9] g_1 0 (List.map (D.int .i64) e_1).length 1, []⟩] ?_
    obtain ⟨r_1, hr_1, h⟩ := bind_s h
    have hc_1 := slices_Sort_Lint_L e_1 r_1 hr_1
    have hn_1 := lim_len (F := tab1) (X := fun _ _ => none) hc_1 (show tab1 106 = some F106 from by kernel_rfl) rfl 0 rfl (by decide) rfl
    refine Rt (some 73) (.callf 106) [] none [.lref [9] g_1 0 (List.map (D.int .i64) e_1).length 1] (.tup []) [([9], some (.arr (List.map (D.int .i64) r_1) g_1 false))] (cut_call (call_ofL (ws := []) (us := [([9], some (.arr (List.map (D.int .i64) r_1) g_1 false))]) (by kernel_rfl) (map_cons_ (lendX_of (fz := false) (es := List.map (D.int .i64) e_1) (by kernel_rfl) (by kernel_rfl) rfl (by decide)) map_nil_) (gives_cons (ws := []) (give_lref (fz := false) (es := List.map (D.int .i64) e_1) (by kernel_rfl) rfl (by kernel_rfl) (by decide)) gives_nil) hc_1 (backs_cons_ (ws := [([9], some (.arr (List.map (D.int .i64) r_1) g_1 false))]) (back_lref (f0 := false) (es0 := List.map (D.int .i64) e_1) (by kernel_rfl) hn_1) backs_nil_) (by kernel_rfl))) <| Rk <| Sq <| Sq <| Ro <| Rc 1 [⟨.ref [9] g_1 0 (List.map (D.int .i64) e_1).length 1, []⟩] <| Rt (some 75) .lenL [] none [.ref [9] g_1 0 (List.map (D.int .i64) e_1).length 1] (.i (r_1.length : Int)) [] (cut_lenR (e := (D.int .i64)) r_1 (by simp only [List.length_map, List.length_set, cpy_length] at * <;> omega : (List.map (D.int .i64) e_1).length = (List.map (D.int .i64) r_1).length)) <| Rc 1 [vi 0] <| Rk <| Runs.block ?_
    obtain ⟨e_2, he_2, h⟩ := bind_s h
    refine Runs.loop (fun x : Int => mz_sites_l49 r_1 n_ r_1 (r_1.length : Int) x) (fun (x : Int) (g : (Nat × Bool)) => mz_sites_h49 r_1 n_ r_1 (r_1.length : Int) x g.1 g.2) (mz_sites_P49 b_ h_ n_ r_1 n_ r_1 (r_1.length : Int)) (fun x g r hr => mz_sites_l49_ok b_ h_ n_ r_1 n_ r_1 (r_1.length : Int) x g.1 g.2 r hr) (g_1, true) he_2 (Canon.cons (frz_ref (e := (D.int .i64)) (l := r_1) (id := [9]) (v := g_1) (n := 1) (fz := false) (by kernel_rfl) (by kernel_rfl) (by simp only [List.length_map, List.length_set, cpy_length] at * <;> omega : (List.map (D.int .i64) e_1).length = (List.map (D.int .i64) r_1).length)) (Canon.len (f := fun n => mz_sites_h49n r_1 n_ r_1 (r_1.length : Int) 0 g_1 true n) ((by simp only [List.length_map, List.length_set, cpy_length] at * <;> omega : (List.map (D.int .i64) e_1).length = (List.map (D.int .i64) r_1).length)).symm Cz)) ?_
    rintro ⟨o, s⟩ hp
    cases e_2 with
    | inl e_3 =>
     obtain ⟨ho, hf⟩ := hp
     have ho' : o = .ret := ho
     subst ho'
     refine kB_ret <| kS_ret ?_
     obtain rfl := sj h
     exact ⟨Out.ret_ne, hf⟩
    | inr e_4 =>
     obtain ⟨ho, g_2, hk_2⟩ := hp
     have ho' : o = .exit 2 := ho
     subst ho'
     refine kB_hit <| kS_nrm <| Runs.canon _ hk_2 <| Sq <| Ro <| Rc 3 [⟨.ref [9] g_2.1 0 (List.map (D.int .i64) r_1).length 1, []⟩, ⟨.ref [9] g_2.1 0 (List.map (D.int .i64) r_1).length 1, []⟩, vi 0] <| Rk <| Sq <| Runs.gcons (frz_ref (e := (D.int .i64)) (l := r_1) (id := [9]) (v := g_2.1) (n := 1) (fz := g_2.2) (by kernel_rfl) (by kernel_rfl) rfl) <| Runs.gnil <| kS_nrm <| Runs.ret ?_
     cases h
     exact Fq
theorem mz_sites_L (b_ : (List Int)) (h_ : Header) (n_ : Int) (r : ((List Int) × Int)) (h : mz_sites b_ h_ n_ = some r) : L 74 [.d (.sl (mY b_)), .d (Header.d h_), .i n_] = some (.tup [.d (.sl (List.map (D.int .i64) r.1)), .i r.2], [.d (.sl (mY b_)), .d (Header.d h_), .i n_]) := by
 obtain ⟨p, ⟨hne, hf⟩, hr⟩ := mz_sites_ok b_ h_ n_ r h
 obtain ⟨k, hk⟩ := run_of (F := F74) (args := [.d (.sl (mY b_)), .d (Header.d h_), .i n_]) (ap := [.d (.sl (mY b_)), .d (Header.d h_), .i n_]) (bx0 := updW (fun _ => none) []) rfl rfl (by kernel_rfl) ⟨p, ⟨hne, hf⟩, hr⟩
 exact lim_run (k := k) rfl hk
def slices_Clone_Lbyte_Q (s_ : List Int) (r : (List Int)) (p : Out × St) : Prop := (∀ i, p.1 ≠ .exit i) ∧ finF F67 [.d (.sl (mY s_))] p.2 = some (.arr false 1 (mY r), [.d (.sl (mY s_))])
theorem slices_Clone_Lbyte_ok_cons (x_ : Int) (r_ : List Int) (r : (List Int)) (h : ((grow 1 ([] : List Int) (x_ :: r_)).bind fun z_1 => some z_1) = some r) : Runs L F67.body ⟨tmOf [.d (.sl (mY (x_ :: r_)))] 0, fun _ => none⟩ (slices_Clone_Lbyte_Q (x_ :: r_) r) := by
 refine Sq <| Ro <| Rc 1 [⟨.nils, []⟩] <| Rk <| Sq <| Sq <| Ro <| Rc 2 [⟨.d (.sl (mY (x_ :: r_))), []⟩, vb false] <| Rk <| Cf <| Runs.skip <| kS_nrm <| Sq <| Ro <| Rc 2 [⟨.ref [5] 0 0 (mY ([] : List Int)).length 1, [([5], some (.arr (mY ([] : List Int)) 0 false))]⟩, ⟨.d (.sl (mY (x_ :: r_))), []⟩] ?_
 obtain ⟨z_1, hz_1, h⟩ := bind_s h
 refine Rt (some 7) (.append 1 1 false) [] none [.ref [5] 0 0 (mY ([] : List Int)).length 1, .d (.sl (mY (x_ :: r_)))] (.ref [5] 1 0 (mY z_1).length 1) [([5], some (.arr (mY z_1) 1 false))] (cut_appR (e := (D.int .u8)) (l := ([] : List Int)) (fz := false) (ws := []) (ap_data _) (fun _ => rfl) hz_1 (by kernel_rfl) (by kernel_rfl) rfl) <| Rc 1 [⟨.ref [5] 1 0 (mY z_1).length 1, []⟩] <| Rk <| Runs.ret ?_
 obtain rfl := sj h
 exact ⟨Out.ret_ne, (fin_of (rs := [.ref [5] 1 0 (mY z_1).length 1]) (by kernel_rfl) (by kernel_rfl) (outs_own (id := [5]) (v := 1) (fz := false) (es := List.map (D.int .u8) z_1) (by kernel_rfl) (by decide) rfl outs_nil) (gives_cons (give_same (by kernel_rfl)) gives_nil))⟩
theorem slices_Clone_Lbyte_ok_nil  (r : (List Int)) (h : (some ([] : List Int)) = some r) : Runs L F67.body ⟨tmOf [.nils] 0, fun _ => none⟩ (slices_Clone_Lbyte_Q ([] : List Int) r) := by
 refine Sq <| Ro <| Rc 1 [⟨.nils, []⟩] <| Rk <| Sq <| Sq <| Ro <| Rc 2 [⟨.nils, []⟩, vb true] <| Rk <| Ct <| Sq <| Ro <| Rc 1 [⟨.nils, []⟩] <| Rk <| Sq <| Runs.gcons (own_nil (D.int .u8) (v := 0) (by kernel_rfl) (by kernel_rfl)) <| Runs.gnil <| kS_nrm <| Runs.ret <| kS_ret ?_
 obtain rfl := sj h
 exact ⟨Out.ret_ne, (fin_of (rs := [.ref [2] 0 0 (mY ([] : List Int)).length 1]) (by kernel_rfl) (by kernel_rfl) (outs_own (id := [2]) (v := 0) (fz := false) (es := List.map (D.int .u8) ([] : List Int)) (by kernel_rfl) (by decide) rfl outs_nil) (gives_cons (give_same (by kernel_rfl)) gives_nil))⟩
theorem slices_Clone_Lbyte_ok_empt  (r : (List Int)) (h : ((grow 1 ([] : List Int) ([] : List Int)).bind fun z_1 => some z_1) = some r) : Runs L F67.body ⟨tmOf [.empt] 0, fun _ => none⟩ (slices_Clone_Lbyte_Q ([] : List Int) r) := by
 refine Sq <| Ro <| Rc 1 [⟨.nils, []⟩] <| Rk <| Sq <| Sq <| Ro <| Rc 2 [⟨.empt, []⟩, vb false] <| Rk <| Cf <| Runs.skip <| kS_nrm <| Sq <| Ro <| Rc 2 [⟨.ref [5] 0 0 (mY ([] : List Int)).length 1, [([5], some (.arr (mY ([] : List Int)) 0 false))]⟩, ⟨.empt, []⟩] ?_
 obtain ⟨z_1, hz_1, h⟩ := bind_s h
 refine Rt (some 7) (.append 1 1 false) [] none [.ref [5] 0 0 (mY ([] : List Int)).length 1, .empt] (.ref [5] 1 0 (mY z_1).length 1) [([5], some (.arr (mY z_1) 1 false))] (cut_appR (e := (D.int .u8)) (l := ([] : List Int)) (fz := false) (ws := []) (ap_empt) (fun _ => rfl) hz_1 (by kernel_rfl) (by kernel_rfl) rfl) <| Rc 1 [⟨.ref [5] 1 0 (mY z_1).length 1, []⟩] <| Rk <| Runs.ret ?_
 obtain rfl := sj h
 exact ⟨Out.ret_ne, (fin_of (rs := [.ref [5] 1 0 (mY z_1).length 1]) (by kernel_rfl) (by kernel_rfl) (outs_own (id := [5]) (v := 1) (fz := false) (es := List.map (D.int .u8) z_1) (by kernel_rfl) (by decide) rfl outs_nil) (gives_cons (give_same (by kernel_rfl)) gives_nil))⟩
theorem slices_Clone_Lbyte_L (s_ : List Int) (r : (List Int)) (h : slices_Clone_Lbyte s_ = some r) : L 67 [.d (.sl (mY s_))] = some (.arr false 1 (mY r), [.d (.sl (mY s_))]) := by
 unfold slices_Clone_Lbyte at h
 cases s_ with
 | cons x_ r_ =>
  obtain ⟨p, ⟨hne, hf⟩, hr⟩ := slices_Clone_Lbyte_ok_cons x_ r_ r (by rw [h]; rfl)
  obtain ⟨k, hk⟩ := run_of_cons (F := F67) (x := (D.int .u8) x_) (xs := List.map (D.int .u8) r_) (ap := [.d (.sl (mY (x_ :: r_)))]) (bx0 := fun _ => none) rfl (by kernel_rfl) ⟨p, ⟨hne, hf⟩, hr⟩
  exact lim_run (k := k) rfl hk
 | nil =>
  obtain rfl : r = [] := by unfold grow at h; split at h <;> first | (cases h; rfl) | cases h
  obtain ⟨p, ⟨hne, hf⟩, hr⟩ := slices_Clone_Lbyte_ok_nil [] (by rfl)
  obtain ⟨q, ⟨hne', hf'⟩, hr'⟩ := slices_Clone_Lbyte_ok_empt [] (by rw [h]; rfl)
  obtain ⟨k, hk⟩ := run_of_empty (F := F67) (n := 1) rfl rfl ⟨p, ⟨hne, hf⟩, hr⟩ ⟨q, ⟨hne', hf'⟩, hr'⟩
  exact lim_run (k := k) rfl hk
def mz_Read_Q (b_ : (List Int)) (r : (Image × Int)) (p : Out × St) : Prop := (∀ i, p.1 ≠ .exit i) ∧ finF F32 [.d (.sl (mY b_))] p.2 = some (.tup [.d (Image.d r.1), .i r.2], [.d (.sl (mY b_))])
theorem mz_Read_ok (b_ : (List Int)) (r : (Image × Int)) (h : mz_Read b_ = some r) : Runs L F32.body ⟨tmOf [.d (.sl (mY b_))] 0, updW (fun _ => none) []⟩ (mz_Read_Q b_ r) := by
 unfold mz_Read at h
 refine Sq <| Ro <| Rc 2 [⟨.ptr [2] 0 0, [([2], some (.cells [.nils, .nils, .w 0, .w 0, .w 0, .w 0, .i 0] 0))]⟩, vi 0] <| Rk <| Sq <| Ro <| Rc 1 [⟨.d (.sl (mY b_)), []⟩] ?_
 obtain ⟨r_1, hr_1, h⟩ := bind_s h
 have hc_1 := mz_first_L b_ r_1 hr_1
 refine Rt (some 13) (.callf 72) [] none [.d (.sl (mY b_))] (.tup [.d (Header.d r_1.1), .i r_1.2]) [] (cc hc_1) <| Rc 6 [⟨.tup [.d (Header.d r_1.1), .i r_1.2], []⟩, ⟨.d (Header.d r_1.1), []⟩, vi r_1.2, ⟨.ptr [4] 0 0, [([4], some (.cells [.w 0, .w 0, .w 0, .w 0, .w 0, .w 0, .w 0, .w 0, .w 0, .w 0] 0))]⟩, ⟨.tup [], [([4], some (.cells [.w r_1.1.last, .w r_1.1.pages, .w r_1.1.relocs, .w r_1.1.paras, .w r_1.1.min, .w r_1.1.ss, .w r_1.1.sp, .w r_1.1.ip, .w r_1.1.cs_, .w r_1.1.table] 0))]⟩, vi r_1.2] <| Rk <| Sq <| Sq <| Ro <| Rc 2 [vi r_1.2, vb (r_1.2 != 0)] <| Rk ?_
 cases hb_1 : ((r_1.2 != 0) : Bool) with
 | true =>
  replace h := ite_t hb_1 h
  refine Ct <| Sq <| Ro <| Rc 4 [⟨.mix [.nils, .nils, .w 0, .w 0, .w 0, .w 0, .i 0], []⟩, vi r_1.2, ⟨.tup [], [([2], some (.cells [.nils, .nils, .w 0, .w 0, .w 0, .w 0, .i 0] 0))]⟩, vi r_1.2] <| Rk <| Sq <| Runs.gcons (frzB_nil (ver := 0) (cs := [.nils, .nils, .w 0, .w 0, .w 0, .w 0, .i 0]) (cs' := [.d (.sl (mY ([] : List Int))), .nils, .w 0, .w 0, .w 0, .w 0, .i 0]) (D.int .u8) (by kernel_rfl) (by kernel_rfl) (by kernel_rfl)) <| Runs.gcons (frzB_nil (ver := 0) (cs := [.d (.sl (mY ([] : List Int))), .nils, .w 0, .w 0, .w 0, .w 0, .i 0]) (cs' := [.d (.sl (mY ([] : List Int))), .d (.sl (List.map (D.int .i64) ([] : List Int))), .w 0, .w 0, .w 0, .w 0, .i 0]) (D.int .i64) (by kernel_rfl) (by kernel_rfl) (by kernel_rfl)) <| Runs.gnil <| kS_nrm <| Runs.ret <| kS_ret ?_
  cases h
  exact Fq
 | false =>
  replace h := ite_f hb_1 h
  refine Cf <| Runs.skip <| kS_nrm <| Sq <| Ro <| Rc 1 [⟨.d (Header.d r_1.1), []⟩] ?_
  obtain ⟨r_2, hr_2, h⟩ := bind_s h
  have hc_2 := mz_size_L r_1.1 r_2 hr_2
  refine Rt (some 22) (.callf 73) [] none [.d (Header.d r_1.1)] (.tup [.i r_2.1, .b r_2.2]) [] (cc hc_2) <| Rc 5 [⟨.tup [.i r_2.1, .b r_2.2], []⟩, vi r_2.1, vb r_2.2, vi r_2.1, vb r_2.2] <| Rk <| Sq <| Ro <| Rc 5 [vp [4] 0 3, vw r_1.1.paras, vi (IntKind.wrap .i64 r_1.1.paras), vi (IntKind.wrap .i64 ((IntKind.wrap .i64 r_1.1.paras) * 16)), vi (IntKind.wrap .i64 ((IntKind.wrap .i64 r_1.1.paras) * 16))] <| Rk <| Sq <| Runs.block <| Sq <| Ro <| Rc 3 [vb r_2.2, vb (!r_2.2), vb (!r_2.2)] ?_
  cases hb_2 : ((!r_2.2) : Bool) with
  | true =>
   replace h := ite_t hb_2 h
   refine Rc 4 [vn, vn, vb true, vb true] <| Rk <| Ct <| Sq <| Ro <| Rc 3 [⟨.mix [.nils, .nils, .w 0, .w 0, .w 0, .w 0, .i 0], []⟩, ⟨.tup [], [([2], some (.cells [.nils, .nils, .w 0, .w 0, .w 0, .w 0, .i 0] 0))]⟩, vi 3] <| Rk <| Sq <| Runs.gcons (frzB_nil (ver := 0) (cs := [.nils, .nils, .w 0, .w 0, .w 0, .w 0, .i 0]) (cs' := [.d (.sl (mY ([] : List Int))), .nils, .w 0, .w 0, .w 0, .w 0, .i 0]) (D.int .u8) (by kernel_rfl) (by kernel_rfl) (by kernel_rfl)) <| Runs.gcons (frzB_nil (ver := 0) (cs := [.d (.sl (mY ([] : List Int))), .nils, .w 0, .w 0, .w 0, .w 0, .i 0]) (cs' := [.d (.sl (mY ([] : List Int))), .d (.sl (List.map (D.int .i64) ([] : List Int))), .w 0, .w 0, .w 0, .w 0, .i 0]) (D.int .i64) (by kernel_rfl) (by kernel_rfl) (by kernel_rfl)) <| Runs.gnil <| kS_nrm <| Runs.ret <| kB_ret <| kS_ret ?_
   cases h
   exact Fq
  | false =>
   replace h := ite_f hb_2 h
   refine Rc 4 [vi (IntKind.wrap .i64 ((IntKind.wrap .i64 r_1.1.paras) * 16)), vb (decide ((IntKind.wrap .i64 ((IntKind.wrap .i64 r_1.1.paras) * 16)) < 28)), vb (decide ((IntKind.wrap .i64 ((IntKind.wrap .i64 r_1.1.paras) * 16)) < 28)), vb (decide ((IntKind.wrap .i64 ((IntKind.wrap .i64 r_1.1.paras) * 16)) < 28))] <| Rk ?_
   cases hb_3 : ((decide ((IntKind.wrap .i64 ((IntKind.wrap .i64 r_1.1.paras) * 16)) < 28)) : Bool) with
   | true =>
    replace h := ite_t hb_3 h
    refine Ct <| Sq <| Ro <| Rc 3 [⟨.mix [.nils, .nils, .w 0, .w 0, .w 0, .w 0, .i 0], []⟩, ⟨.tup [], [([2], some (.cells [.nils, .nils, .w 0, .w 0, .w 0, .w 0, .i 0] 0))]⟩, vi 3] <| Rk <| Sq <| Runs.gcons (frzB_nil (ver := 0) (cs := [.nils, .nils, .w 0, .w 0, .w 0, .w 0, .i 0]) (cs' := [.d (.sl (mY ([] : List Int))), .nils, .w 0, .w 0, .w 0, .w 0, .i 0]) (D.int .u8) (by kernel_rfl) (by kernel_rfl) (by kernel_rfl)) <| Runs.gcons (frzB_nil (ver := 0) (cs := [.d (.sl (mY ([] : List Int))), .nils, .w 0, .w 0, .w 0, .w 0, .i 0]) (cs' := [.d (.sl (mY ([] : List Int))), .d (.sl (List.map (D.int .i64) ([] : List Int))), .w 0, .w 0, .w 0, .w 0, .i 0]) (D.int .i64) (by kernel_rfl) (by kernel_rfl) (by kernel_rfl)) <| Runs.gnil <| kS_nrm <| Runs.ret <| kB_ret <| kS_ret ?_
    cases h
    exact Fq
   | false =>
    replace h := ite_f hb_3 h
    refine Cf <| Sq <| Ro <| Rc 1 [⟨.d (.sl (mY b_)), []⟩] <| Rt (some 39) .lenL [] none [.d (.sl (mY b_))] (.i (b_.length : Int)) [] (cut_len _) <| Rc 3 [vi r_2.1, vb (decide ((b_.length : Int) < r_2.1)), vb (decide ((b_.length : Int) < r_2.1))] <| Rk ?_
    cases hb_4 : ((decide ((b_.length : Int) < r_2.1)) : Bool) with
    | true =>
     replace h := ite_t hb_4 h
     refine Ct <| Sq <| Ro <| Rc 3 [⟨.mix [.nils, .nils, .w 0, .w 0, .w 0, .w 0, .i 0], []⟩, ⟨.tup [], [([2], some (.cells [.nils, .nils, .w 0, .w 0, .w 0, .w 0, .i 0] 0))]⟩, vi 2] <| Rk <| Sq <| Runs.gcons (frzB_nil (ver := 0) (cs := [.nils, .nils, .w 0, .w 0, .w 0, .w 0, .i 0]) (cs' := [.d (.sl (mY ([] : List Int))), .nils, .w 0, .w 0, .w 0, .w 0, .i 0]) (D.int .u8) (by kernel_rfl) (by kernel_rfl) (by kernel_rfl)) <| Runs.gcons (frzB_nil (ver := 0) (cs := [.d (.sl (mY ([] : List Int))), .nils, .w 0, .w 0, .w 0, .w 0, .i 0]) (cs' := [.d (.sl (mY ([] : List Int))), .d (.sl (List.map (D.int .i64) ([] : List Int))), .w 0, .w 0, .w 0, .w 0, .i 0]) (D.int .i64) (by kernel_rfl) (by kernel_rfl) (by kernel_rfl)) <| Runs.gnil <| kS_nrm <| Runs.ret <| kB_ret <| kS_ret ?_
     cases h
     exact Fq
    | false =>
     replace h := ite_f hb_4 h
     refine Cf <| Runs.skip <| kB_nrm <| kS_nrm <| Sq <| Ro <| Rc 5 [⟨.d (.sl (mY b_)), []⟩, ⟨.d (Header.d r_1.1), []⟩, vi r_2.1, vi (IntKind.wrap .i64 ((IntKind.wrap .i64 r_1.1.paras) * 16)), vi (IntKind.wrap .i64 (r_2.1 - (IntKind.wrap .i64 ((IntKind.wrap .i64 r_1.1.paras) * 16))))] ?_
     obtain ⟨r_3, hr_3, h⟩ := bind_s h
     have hc_3 := mz_sites_L b_ r_1.1 (IntKind.wrap .i64 (r_2.1 - (IntKind.wrap .i64 ((IntKind.wrap .i64 r_1.1.paras) * 16)))) r_3 hr_3
     refine Rt (some 49) (.callf 74) [] none [.d (.sl (mY b_)), .d (Header.d r_1.1), .i (IntKind.wrap .i64 (r_2.1 - (IntKind.wrap .i64 ((IntKind.wrap .i64 r_1.1.paras) * 16))))] (.tup [.d (.sl (List.map (D.int .i64) r_3.1)), .i r_3.2]) [] (cc hc_3) <| Rc 5 [⟨.tup [.d (.sl (List.map (D.int .i64) r_3.1)), .i r_3.2], []⟩, ⟨.d (.sl (List.map (D.int .i64) r_3.1)), []⟩, vi r_3.2, ⟨.d (.sl (List.map (D.int .i64) r_3.1)), []⟩, vi r_3.2] <| Rk <| Sq <| Sq <| Ro <| Rc 2 [vi r_3.2, vb (r_3.2 != 0)] <| Rk ?_
     cases hb_5 : ((r_3.2 != 0) : Bool) with
     | true =>
      replace h := ite_t hb_5 h
      refine Ct <| Sq <| Ro <| Rc 4 [⟨.mix [.nils, .nils, .w 0, .w 0, .w 0, .w 0, .i 0], []⟩, vi r_3.2, ⟨.tup [], [([2], some (.cells [.nils, .nils, .w 0, .w 0, .w 0, .w 0, .i 0] 0))]⟩, vi r_3.2] <| Rk <| Sq <| Runs.gcons (frzB_nil (ver := 0) (cs := [.nils, .nils, .w 0, .w 0, .w 0, .w 0, .i 0]) (cs' := [.d (.sl (mY ([] : List Int))), .nils, .w 0, .w 0, .w 0, .w 0, .i 0]) (D.int .u8) (by kernel_rfl) (by kernel_rfl) (by kernel_rfl)) <| Runs.gcons (frzB_nil (ver := 0) (cs := [.d (.sl (mY ([] : List Int))), .nils, .w 0, .w 0, .w 0, .w 0, .i 0]) (cs' := [.d (.sl (mY ([] : List Int))), .d (.sl (List.map (D.int .i64) ([] : List Int))), .w 0, .w 0, .w 0, .w 0, .i 0]) (D.int .i64) (by kernel_rfl) (by kernel_rfl) (by kernel_rfl)) <| Runs.gnil <| kS_nrm <| Runs.ret <| kS_ret ?_
      cases h
      exact Fq
     | false =>
      replace h := ite_f hb_5 h
      refine Cf <| Runs.skip <| kS_nrm <| Sq <| Ro <| Rc 3 [⟨.d (.sl (mY b_)), []⟩, vi (IntKind.wrap .i64 ((IntKind.wrap .i64 r_1.1.paras) * 16)), vi r_2.1] ?_
      obtain ⟨z_1, hz_1, h⟩ := bind_s h
      refine Rt (some 59) (.subsl 1 true true false) [] none [.d (.sl (mY b_)), .i (IntKind.wrap .i64 ((IntKind.wrap .i64 r_1.1.paras) * 16)), .i r_2.1] (.d (.sl (mY z_1))) [] (cut_slTT hz_1 (fun _ => rfl)) ?_
      obtain ⟨r_4, hr_4, h⟩ := bind_s h
      have hc_4 := slices_Clone_Lbyte_L z_1 r_4 hr_4
      refine Rt (some 60) (.callf 67) [[10]] (some []) [.d (.sl (mY z_1))] (.ref [60] 0 0 (mY r_4).length 1) [([60], some (.arr (mY r_4) 0 false))] (cut_call (call_of (ws := []) (us := []) (by kernel_rfl) (gives_cons (ws := []) (give_same (by kernel_rfl)) gives_nil) hc_4 (by kernel_rfl) (by kernel_rfl))) <| Rc 15 [⟨.d (.sl (List.map (D.int .i64) r_3.1)), []⟩, vp [4] 0 8, vw r_1.1.cs_, vp [4] 0 7, vw r_1.1.ip, vp [4] 0 5, vw r_1.1.ss, vp [4] 0 6, vw r_1.1.sp, vp [4] 0 4, vw r_1.1.min, vi (IntKind.wrap .i64 r_1.1.min), ⟨.mix [.ref [60] 0 0 (mY r_4).length 1, .d (.sl (List.map (D.int .i64) r_3.1)), .w r_1.1.cs_, .w r_1.1.ip, .w r_1.1.ss, .w r_1.1.sp, .i (IntKind.wrap .i64 r_1.1.min)], []⟩, ⟨.ptr [10] 0 0, [([10], some (.cells [.nils, .nils, .w 0, .w 0, .w 0, .w 0, .i 0] 0))]⟩, ⟨.tup [], [([10], some (.cells [.ref [60] 0 0 (mY r_4).length 1, .d (.sl (List.map (D.int .i64) r_3.1)), .w r_1.1.cs_, .w r_1.1.ip, .w r_1.1.ss, .w r_1.1.sp, .i (IntKind.wrap .i64 r_1.1.min)] 0))]⟩] <| Rk <| Sq <| Sq <| Ro <| Rc 1 [⟨.mix [.ref [60] 0 0 (mY r_4).length 1, .d (.sl (List.map (D.int .i64) r_3.1)), .w r_1.1.cs_, .w r_1.1.ip, .w r_1.1.ss, .w r_1.1.sp, .i (IntKind.wrap .i64 r_1.1.min)], []⟩] ?_
      obtain ⟨r_5, hr_5, h⟩ := bind_s h
      have hc_5 := mz_May_L ({ Bytes := r_4, Relocs := r_3.1, CS := r_1.1.cs_, IP := r_1.1.ip, SS := r_1.1.ss, SP := r_1.1.sp, Min := (IntKind.wrap .i64 r_1.1.min) } : Image) r_5 hr_5
      refine Rt (some 75) (.callf 34) [] none [.mix [.ref [60] 0 0 (mY r_4).length 1, .d (.sl (List.map (D.int .i64) r_3.1)), .w r_1.1.cs_, .w r_1.1.ip, .w r_1.1.ss, .w r_1.1.sp, .i (IntKind.wrap .i64 r_1.1.min)]] (.b r_5) [([60], some (.arr (mY r_4) 0 true))] (cut_call (call_of (ws := [([60], some (.arr (mY r_4) 0 true))]) (us := [([60], some (.arr (mY r_4) 0 true))]) (by kernel_rfl) (gives_cons (ws := [([60], some (.arr (mY r_4) 0 true))]) (give_mix (snaps_r (e := (D.int .u8)) (l := r_4) (fz := false) (by kernel_rfl) (by kernel_rfl) (hl := rfl) (snaps_d (snaps_d (snaps_d (snaps_d (snaps_d (snaps_d snaps_nil)))))))) gives_nil) hc_5 (by kernel_rfl) (by kernel_rfl))) <| Rc 1 [vb (!r_5)] <| Rk ?_
      cases hb_6 : ((!r_5) : Bool) with
      | true =>
       replace h := ite_t hb_6 h
       refine Ct <| Sq <| Ro <| Rc 3 [⟨.mix [.nils, .nils, .w 0, .w 0, .w 0, .w 0, .i 0], []⟩, ⟨.tup [], [([2], some (.cells [.nils, .nils, .w 0, .w 0, .w 0, .w 0, .i 0] 0))]⟩, vi 8] <| Rk <| Sq <| Runs.gcons (frzB_nil (ver := 0) (cs := [.nils, .nils, .w 0, .w 0, .w 0, .w 0, .i 0]) (cs' := [.d (.sl (mY ([] : List Int))), .nils, .w 0, .w 0, .w 0, .w 0, .i 0]) (D.int .u8) (by kernel_rfl) (by kernel_rfl) (by kernel_rfl)) <| Runs.gcons (frzB_nil (ver := 0) (cs := [.d (.sl (mY ([] : List Int))), .nils, .w 0, .w 0, .w 0, .w 0, .i 0]) (cs' := [.d (.sl (mY ([] : List Int))), .d (.sl (List.map (D.int .i64) ([] : List Int))), .w 0, .w 0, .w 0, .w 0, .i 0]) (D.int .i64) (by kernel_rfl) (by kernel_rfl) (by kernel_rfl)) <| Runs.gnil <| kS_nrm <| Runs.ret <| kS_ret ?_
       cases h
       exact Fq
      | false =>
       replace h := ite_f hb_6 h
       refine Cf <| Runs.skip <| kS_nrm <| Sq <| Ro <| Rc 3 [⟨.mix [.ref [60] 0 0 (mY r_4).length 1, .d (.sl (List.map (D.int .i64) r_3.1)), .w r_1.1.cs_, .w r_1.1.ip, .w r_1.1.ss, .w r_1.1.sp, .i (IntKind.wrap .i64 r_1.1.min)], []⟩, ⟨.tup [], [([2], some (.cells [.ref [60] 0 0 (mY r_4).length 1, .d (.sl (List.map (D.int .i64) r_3.1)), .w r_1.1.cs_, .w r_1.1.ip, .w r_1.1.ss, .w r_1.1.sp, .i (IntKind.wrap .i64 r_1.1.min)] 0))]⟩, vi 0] <| Rk <| Sq <| Runs.gcons (frzB_ref (e := (D.int .u8)) (l := r_4) (id := [2]) (id' := [60]) (v := 0) (n := 1) (fz := true) (ver := 0) (cs := [.ref [60] 0 0 (mY r_4).length 1, .d (.sl (List.map (D.int .i64) r_3.1)), .w r_1.1.cs_, .w r_1.1.ip, .w r_1.1.ss, .w r_1.1.sp, .i (IntKind.wrap .i64 r_1.1.min)]) (cs' := [.d (.sl (mY r_4)), .d (.sl (List.map (D.int .i64) r_3.1)), .w r_1.1.cs_, .w r_1.1.ip, .w r_1.1.ss, .w r_1.1.sp, .i (IntKind.wrap .i64 r_1.1.min)]) (by kernel_rfl) (by kernel_rfl) (by kernel_rfl) (by decide) (by kernel_rfl) rfl) <| Runs.gnil <| kS_nrm <| Runs.ret ?_
       cases h
       exact Fq
theorem mz_Read_L (b_ : (List Int)) (r : (Image × Int)) (h : mz_Read b_ = some r) : L 32 [.d (.sl (mY b_))] = some (.tup [.d (Image.d r.1), .i r.2], [.d (.sl (mY b_))]) := by
 obtain ⟨p, ⟨hne, hf⟩, hr⟩ := mz_Read_ok b_ r h
 obtain ⟨k, hk⟩ := run_of (F := F32) (args := [.d (.sl (mY b_))]) (ap := [.d (.sl (mY b_))]) (bx0 := updW (fun _ => none) []) rfl rfl (by kernel_rfl) ⟨p, ⟨hne, hf⟩, hr⟩
 exact lim_run (k := k) rfl hk
def hansomref44_Same_h14 (a2 : Image) (b3 : Image) (i5 : Int) : St := ⟨tab [(2, .ptr [2] 0 0), (3, .ptr [3] 0 0), (5, .i i5)], tabB [([2], some (.cells [.d (.sl (mY a2.Bytes)), .d (.sl (List.map (D.int .i64) a2.Relocs)), .w a2.CS, .w a2.IP, .w a2.SS, .w a2.SP, .i a2.Min] 0)), ([3], some (.cells [.d (.sl (mY b3.Bytes)), .d (.sl (List.map (D.int .i64) b3.Relocs)), .w b3.CS, .w b3.IP, .w b3.SS, .w b3.SP, .i b3.Min] 0))]⟩
def hansomref44_Same_h31  : St := ⟨tab [], tabB []⟩
def hansomref44_Same_Q (a_ : Image) (b_ : Image) (r : Bool) (p : Out × St) : Prop := (∀ i, p.1 ≠ .exit i) ∧ finF F35 [.d (Image.d a_), .d (Image.d b_)] p.2 = some (.b r, [.d (Image.d a_), .d (Image.d b_)])
def hansomref44_Same_P14 (a_ : Image) (b_ : Image) (a2 : Image) (b3 : Image) (e : (Bool ⊕ Unit)) (p : Out × St) : Prop := match e with
 | .inl x => p.1 = .ret ∧ finF F35 [.d (Image.d a_), .d (Image.d b_)] p.2 = some (.b x, [.d (Image.d a_), .d (Image.d b_)])
 | .inr x => p.1 = .exit 0 ∧ ∃ g : Unit, Canon [] [] [] p.2 (hansomref44_Same_h31)
theorem hansomref44_Same_l14_ok (a_ : Image) (b_ : Image) (a2 : Image) (b3 : Image) (i5 : Int) (r : (Lp Int (Bool ⊕ Unit))) (h : hansomref44_Same_l14 a2 b3 i5 = some r) : Runs L F35l14 (hansomref44_Same_h14 a2 b3 i5) (LQ [] [2, 3, 5] [[2], [3]] (fun (x : Int) (g : Unit) => hansomref44_Same_h14 a2 b3 x) (hansomref44_Same_P14 a_ b_ a2 b3) r) := by
 unfold hansomref44_Same_l14 at h
 refine Sq <| Sq <| Ro <| Rc 3 [vi i5, vp [2] 0 1, ⟨.d (.sl (List.map (D.int .i64) a2.Relocs)), []⟩] <| Rt (some 60) .lenL [] none [.d (.sl (List.map (D.int .i64) a2.Relocs))] (.i (a2.Relocs.length : Int)) [] (cut_len _) <| Rc 1 [vb (decide (i5 < (a2.Relocs.length : Int)))] <| Rk ?_
 cases hb_8 : ((decide (i5 < (a2.Relocs.length : Int))) : Bool) with
 | true =>
  replace h := ite_t hb_8 h
  refine Ct <| Runs.skip <| kS_nrm <| Sq <| Runs.block <| Sq <| Ro <| Rc 3 [vp [2] 0 1, ⟨.d (.sl (List.map (D.int .i64) a2.Relocs)), []⟩, vi i5] ?_
  obtain ⟨z_1, hz_1, h⟩ := bind_s h
  refine Rt (some 67) (.iaddrS 1) [] none [.d (.sl (List.map (D.int .i64) a2.Relocs)), .i i5] (.elt (.int .i64 z_1) 0) [] (cut_at hz_1 (fun _ => rfl)) <| Rc 4 [vi z_1, vp [3] 0 1, ⟨.d (.sl (List.map (D.int .i64) b3.Relocs)), []⟩, vi i5] ?_
  obtain ⟨z_2, hz_2, h⟩ := bind_s h
  refine Rt (some 72) (.iaddrS 1) [] none [.d (.sl (List.map (D.int .i64) b3.Relocs)), .i i5] (.elt (.int .i64 z_2) 0) [] (cut_at hz_2 (fun _ => rfl)) <| Rc 2 [vi z_2, vb (z_1 != z_2)] <| Rk ?_
  cases hb_9 : ((z_1 != z_2) : Bool) with
  | true =>
   replace h := ite_t hb_9 h
   refine Ct <| Sq <| Ro <| Rc 1 [vb false] <| Rk <| Runs.ret <| kB_ret <| kS_ret ?_
   obtain rfl := sj h
   exact ⟨nofun, rfl, (by kernel_rfl)⟩
  | false =>
   replace h := ite_f hb_9 h
   refine Cf <| Runs.skip <| kB_nrm <| kS_nrm <| Ro <| Rc 3 [vi i5, vi (IntKind.wrap .i64 (i5 + 1)), vi (IntKind.wrap .i64 (i5 + 1))] <| Rd ?_
   obtain rfl := sj h
   exact ⟨rfl, (), Cz⟩
 | false =>
  replace h := ite_f hb_8 h
  refine Cf <| Runs.exit <| kS_exit ?_
  obtain rfl := sj h
  exact ⟨nofun, rfl, (), Cz⟩
theorem hansomref44_Same_ok (a_ : Image) (b_ : Image) (r : Bool) (h : hansomref44_Same a_ b_ = some r) : Runs L F35.body ⟨tmOf [.d (Image.d a_), .d (Image.d b_)] 0, updW (fun _ => none) []⟩ (hansomref44_Same_Q a_ b_ r) := by
 unfold hansomref44_Same at h
 refine Sq <| Ro <| Rc 3 [⟨.ptr [2] 0 0, [([2], some (.cells [.d (.sl (mY a_.Bytes)), .d (.sl (List.map (D.int .i64) a_.Relocs)), .w a_.CS, .w a_.IP, .w a_.SS, .w a_.SP, .i a_.Min] 0))]⟩, ⟨.ptr [3] 0 0, [([3], some (.cells [.d (.sl (mY b_.Bytes)), .d (.sl (List.map (D.int .i64) b_.Relocs)), .w b_.CS, .w b_.IP, .w b_.SS, .w b_.SP, .i b_.Min] 0))]⟩, vb false] <| Rk <| Sq <| Sq <| Ro <| Rc 2 [vp [2] 0 0, ⟨.d (.sl (mY a_.Bytes)), []⟩] <| Rt (some 8) .bytesStr [] none [.d (.sl (mY a_.Bytes))] (.d (.str (b2s a_.Bytes))) [] (cut_bs _) <| Rc 2 [vp [3] 0 0, ⟨.d (.sl (mY b_.Bytes)), []⟩] <| Rt (some 11) .bytesStr [] none [.d (.sl (mY b_.Bytes))] (.d (.str (b2s b_.Bytes))) [] (cut_bs _) <| Rc 2 [vb ((b2s a_.Bytes) != (b2s b_.Bytes)), vb ((b2s a_.Bytes) != (b2s b_.Bytes))] ?_
 cases hb_1 : (((b2s a_.Bytes) != (b2s b_.Bytes)) : Bool) with
 | true =>
  replace h := ite_t hb_1 h
  refine Rc 43 [vn, vn, vn, vn, vn, vn, vn, vb true, vb true, vn, vn, vn, vn, vn, vb true, vb true, vn, vn, vn, vn, vn, vb true, vb true, vn, vn, vn, vn, vn, vb true, vb true, vn, vn, vn, vn, vn, vb true, vb true, vn, vn, vn, vn, vn, vb true] <| Rk <| Ct <| Sq <| Ro <| Rc 1 [vb false] <| Rk <| Runs.ret <| kS_ret ?_
  cases h
  exact Fq
 | false =>
  replace h := ite_f hb_1 h
  refine Rc 2 [vp [2] 0 1, ⟨.d (.sl (List.map (D.int .i64) a_.Relocs)), []⟩] <| Rt (some 16) .lenL [] none [.d (.sl (List.map (D.int .i64) a_.Relocs))] (.i (a_.Relocs.length : Int)) [] (cut_len _) <| Rc 2 [vp [3] 0 1, ⟨.d (.sl (List.map (D.int .i64) b_.Relocs)), []⟩] <| Rt (some 19) .lenL [] none [.d (.sl (List.map (D.int .i64) b_.Relocs))] (.i (b_.Relocs.length : Int)) [] (cut_len _) <| Rc 3 [vb ((a_.Relocs.length : Int) != (b_.Relocs.length : Int)), vb ((a_.Relocs.length : Int) != (b_.Relocs.length : Int)), vb ((a_.Relocs.length : Int) != (b_.Relocs.length : Int))] ?_
  cases hb_2 : (((a_.Relocs.length : Int) != (b_.Relocs.length : Int)) : Bool) with
  | true =>
   replace h := ite_t hb_2 h
   refine Rc 34 [vn, vn, vn, vn, vn, vb true, vb true, vn, vn, vn, vn, vn, vb true, vb true, vn, vn, vn, vn, vn, vb true, vb true, vn, vn, vn, vn, vn, vb true, vb true, vn, vn, vn, vn, vn, vb true] <| Rk <| Ct <| Sq <| Ro <| Rc 1 [vb false] <| Rk <| Runs.ret <| kS_ret ?_
   cases h
   exact Fq
  | false =>
   replace h := ite_f hb_2 h
   refine Rc 7 [vp [2] 0 2, vw a_.CS, vp [3] 0 2, vw b_.CS, vb (a_.CS != b_.CS), vb (a_.CS != b_.CS), vb (a_.CS != b_.CS)] ?_
   cases hb_3 : ((a_.CS != b_.CS) : Bool) with
   | true =>
    replace h := ite_t hb_3 h
    refine Rc 27 [vn, vn, vn, vn, vn, vb true, vb true, vn, vn, vn, vn, vn, vb true, vb true, vn, vn, vn, vn, vn, vb true, vb true, vn, vn, vn, vn, vn, vb true] <| Rk <| Ct <| Sq <| Ro <| Rc 1 [vb false] <| Rk <| Runs.ret <| kS_ret ?_
    cases h
    exact Fq
   | false =>
    replace h := ite_f hb_3 h
    refine Rc 7 [vp [2] 0 3, vw a_.IP, vp [3] 0 3, vw b_.IP, vb (a_.IP != b_.IP), vb (a_.IP != b_.IP), vb (a_.IP != b_.IP)] ?_
    cases hb_4 : ((a_.IP != b_.IP) : Bool) with
    | true =>
     replace h := ite_t hb_4 h
     refine Rc 20 [vn, vn, vn, vn, vn, vb true, vb true, vn, vn, vn, vn, vn, vb true, vb true, vn, vn, vn, vn, vn, vb true] <| Rk <| Ct <| Sq <| Ro <| Rc 1 [vb false] <| Rk <| Runs.ret <| kS_ret ?_
     cases h
     exact Fq
    | false =>
     replace h := ite_f hb_4 h
     refine Rc 7 [vp [2] 0 4, vw a_.SS, vp [3] 0 4, vw b_.SS, vb (a_.SS != b_.SS), vb (a_.SS != b_.SS), vb (a_.SS != b_.SS)] ?_
     cases hb_5 : ((a_.SS != b_.SS) : Bool) with
     | true =>
      replace h := ite_t hb_5 h
      refine Rc 13 [vn, vn, vn, vn, vn, vb true, vb true, vn, vn, vn, vn, vn, vb true] <| Rk <| Ct <| Sq <| Ro <| Rc 1 [vb false] <| Rk <| Runs.ret <| kS_ret ?_
      cases h
      exact Fq
     | false =>
      replace h := ite_f hb_5 h
      refine Rc 7 [vp [2] 0 5, vw a_.SP, vp [3] 0 5, vw b_.SP, vb (a_.SP != b_.SP), vb (a_.SP != b_.SP), vb (a_.SP != b_.SP)] ?_
      cases hb_6 : ((a_.SP != b_.SP) : Bool) with
      | true =>
       replace h := ite_t hb_6 h
       refine Rc 6 [vn, vn, vn, vn, vn, vb true] <| Rk <| Ct <| Sq <| Ro <| Rc 1 [vb false] <| Rk <| Runs.ret <| kS_ret ?_
       cases h
       exact Fq
      | false =>
       replace h := ite_f hb_6 h
       refine Rc 6 [vp [2] 0 6, vi a_.Min, vp [3] 0 6, vi b_.Min, vb (a_.Min != b_.Min), vb (a_.Min != b_.Min)] <| Rk ?_
       cases hb_7 : ((a_.Min != b_.Min) : Bool) with
       | true =>
        replace h := ite_t hb_7 h
        refine Ct <| Sq <| Ro <| Rc 1 [vb false] <| Rk <| Runs.ret <| kS_ret ?_
        cases h
        exact Fq
       | false =>
        replace h := ite_f hb_7 h
        refine Cf <| Runs.skip <| kS_nrm <| Sq <| Sq <| Ro <| Rc 1 [vi 0] <| Rk <| Runs.block ?_
        obtain ⟨e_1, he_1, h⟩ := bind_s h
        refine Runs.loop (fun x : Int => hansomref44_Same_l14 a_ b_ x) (fun (x : Int) (g : Unit) => hansomref44_Same_h14 a_ b_ x) (hansomref44_Same_P14 a_ b_ a_ b_) (fun x g r hr => hansomref44_Same_l14_ok a_ b_ a_ b_ x  r hr) () he_1 Cz ?_
        rintro ⟨o, s⟩ hp
        cases e_1 with
        | inl e_2 =>
         obtain ⟨ho, hf⟩ := hp
         have ho' : o = .ret := ho
         subst ho'
         refine kB_ret <| kS_ret ?_
         obtain rfl := sj h
         exact ⟨Out.ret_ne, hf⟩
        | inr e_3 =>
         obtain ⟨ho, g_1, hk_1⟩ := hp
         have ho' : o = .exit 0 := ho
         subst ho'
         refine kB_hit <| kS_nrm <| Runs.canon _ hk_1 <| Sq <| Ro <| Rc 1 [vb true] <| Rk <| Runs.ret ?_
         cases h
         exact Fq
theorem hansomref44_Same_L (a_ : Image) (b_ : Image) (r : Bool) (h : hansomref44_Same a_ b_ = some r) : L 35 [.d (Image.d a_), .d (Image.d b_)] = some (.b r, [.d (Image.d a_), .d (Image.d b_)]) := by
 obtain ⟨p, ⟨hne, hf⟩, hr⟩ := hansomref44_Same_ok a_ b_ r h
 obtain ⟨k, hk⟩ := run_of (F := F35) (args := [.d (Image.d a_), .d (Image.d b_)]) (ap := [.d (Image.d a_), .d (Image.d b_)]) (bx0 := updW (fun _ => none) []) rfl rfl (by kernel_rfl) ⟨p, ⟨hne, hf⟩, hr⟩
 exact lim_run (k := k) rfl hk
def hansomlaw44_MzBack_Q (x_ : Image) (more_ : (List UInt8)) (r : Bool) (p : Out × St) : Prop := (∀ i, p.1 ≠ .exit i) ∧ finF F6 [.d (Image.d x_), .d (.str more_)] p.2 = some (.b r, [.d (Image.d x_), .d (.str more_)])
theorem hansomlaw44_MzBack_ok (x_ : Image) (more_ : (List UInt8)) (r : Bool) (h : hansomlaw44_MzBack x_ more_ = some r) : Runs L F6.body ⟨tmOf [.d (Image.d x_), .d (.str more_)] 0, updW (fun _ => none) []⟩ (hansomlaw44_MzBack_Q x_ more_ r) := by
 unfold hansomlaw44_MzBack at h
 refine Sq <| Ro <| Rc 2 [⟨.ptr [2] 0 0, [([2], some (.cells [.d (.sl (mY x_.Bytes)), .d (.sl (List.map (D.int .i64) x_.Relocs)), .w x_.CS, .w x_.IP, .w x_.SS, .w x_.SP, .i x_.Min] 0))]⟩, vb false] <| Rk <| Sq <| Ro <| Rc 1 [⟨.d (Image.d x_), []⟩] ?_
 obtain ⟨r_1, hr_1, h⟩ := bind_s h
 have hc_1 := hansomref44_Near_L x_ r_1 hr_1
 refine Rt (some 14) (.callf 29) [] none [.d (Image.d x_)] (.d (Image.d r_1)) [] (cc hc_1) <| Rc 2 [⟨.ptr [5] 0 0, [([5], some (.cells [.nils, .nils, .w 0, .w 0, .w 0, .w 0, .i 0] 0))]⟩, ⟨.tup [], [([5], some (.cells [.d (.sl (mY r_1.Bytes)), .d (.sl (List.map (D.int .i64) r_1.Relocs)), .w r_1.CS, .w r_1.IP, .w r_1.SS, .w r_1.SP, .i r_1.Min] 0))]⟩] <| Rk <| Sq <| Ro <| Rc 1 [⟨.d (Image.d r_1), []⟩] ?_
 obtain ⟨r_2, hr_2, h⟩ := bind_s h
 have hc_2 := hansomref44_Write_L r_1 r_2 hr_2
 refine Rt (some 16) (.callf 30) [] none [.d (Image.d r_1)] (.d (.str r_2)) [] (cc hc_2) <| Rc 1 [⟨.d (.str r_2), []⟩] <| Rk <| Sq <| Ro <| Rc 1 [⟨.d (Image.d r_1), []⟩] ?_
 obtain ⟨r_3, hr_3, h⟩ := bind_s h
 have hc_3 := mz_Write_L r_1 r_3 hr_3
 refine Rt (some 19) (.callf 31) [] none [.d (Image.d r_1)] (.tup [.d (.sl (mY r_3.1)), .i r_3.2]) [] (cc hc_3) <| Rc 5 [⟨.tup [.d (.sl (mY r_3.1)), .i r_3.2], []⟩, ⟨.d (.sl (mY r_3.1)), []⟩, vi r_3.2, ⟨.d (.sl (mY r_3.1)), []⟩, vi r_3.2] <| Rk <| Sq <| Ro <| Rc 3 [⟨.d (.str r_2), []⟩, ⟨.d (.str more_), []⟩, ⟨.d (.str more_), []⟩] <| Rt (some 26) .lenS [] none [.d (.str more_)] (.i (more_.length : Int)) [] (cut_lenS _) <| Rc 1 [vi (mnI (more_.length : Int) 20)] ?_
 obtain ⟨z_1, hz_1, h⟩ := bind_s h
 refine Rt (some 28) (.substr false true) [] none [.d (.str more_), .i (mnI (more_.length : Int) 20)] (.d (.str z_1)) [] (cut_strFT hz_1) ?_
 obtain ⟨z_2, hz_2, h⟩ := bind_s h
 refine Rt (some 29) (.bin .add) [] none [.d (.str r_2), .d (.str z_1)] (.d (.str z_2)) [] (cut_cat hz_2) <| Rt (some 30) .strBytes [] none [.d (.str z_2)] (.ref [30] 0 0 (mY (s2b z_2)).length 1) [([30], some (.arr (mY (s2b z_2)) 0 false))] (cut_sb _ (by kernel_rfl)) ?_
 obtain ⟨r_4, hr_4, h⟩ := bind_s h
 have hc_4 := mz_Read_L (s2b z_2) r_4 hr_4
 refine Rt (some 31) (.callf 32) [] none [.ref [30] 0 0 (mY (s2b z_2)).length 1] (.tup [.d (Image.d r_4.1), .i r_4.2]) [([30], some (.arr (mY (s2b z_2)) 0 true))] (cut_call (call_of (ws := [([30], some (.arr (mY (s2b z_2)) 0 true))]) (us := [([30], some (.arr (mY (s2b z_2)) 0 true))]) (by kernel_rfl) (gives_cons (ws := [([30], some (.arr (mY (s2b z_2)) 0 true))]) (give_ref (e := (D.int .u8)) (l := (s2b z_2)) (fz := false) (by kernel_rfl) (by kernel_rfl) rfl) gives_nil) hc_4 (by kernel_rfl) (by kernel_rfl))) <| Rc 6 [⟨.tup [.d (Image.d r_4.1), .i r_4.2], []⟩, ⟨.d (Image.d r_4.1), []⟩, vi r_4.2, ⟨.ptr [9] 0 0, [([9], some (.cells [.nils, .nils, .w 0, .w 0, .w 0, .w 0, .i 0] 0))]⟩, ⟨.tup [], [([9], some (.cells [.d (.sl (mY r_4.1.Bytes)), .d (.sl (List.map (D.int .i64) r_4.1.Relocs)), .w r_4.1.CS, .w r_4.1.IP, .w r_4.1.SS, .w r_4.1.SP, .i r_4.1.Min] 0))]⟩, vi r_4.2] <| Rk <| Sq <| Ro <| Rc 2 [⟨.d (.str r_2), []⟩, ⟨.d (.str r_2), []⟩] <| Rt (some 37) .lenS [] none [.d (.str r_2)] (.i (r_2.length : Int)) [] (cut_lenS _) <| Rc 1 [vi (IntKind.wrap .i64 ((r_2.length : Int) - 1))] ?_
 obtain ⟨z_3, hz_3, h⟩ := bind_s h
 refine Rt (some 39) (.substr false true) [] none [.d (.str r_2), .i (IntKind.wrap .i64 ((r_2.length : Int) - 1))] (.d (.str z_3)) [] (cut_strFT hz_3) <| Rt (some 40) .strBytes [] none [.d (.str z_3)] (.ref [40] 0 0 (mY (s2b z_3)).length 1) [([40], some (.arr (mY (s2b z_3)) 0 false))] (cut_sb _ (by kernel_rfl)) ?_
 obtain ⟨r_5, hr_5, h⟩ := bind_s h
 have hc_5 := mz_Read_L (s2b z_3) r_5 hr_5
 refine Rt (some 41) (.callf 32) [] none [.ref [40] 0 0 (mY (s2b z_3)).length 1] (.tup [.d (Image.d r_5.1), .i r_5.2]) [([40], some (.arr (mY (s2b z_3)) 0 true))] (cut_call (call_of (ws := [([40], some (.arr (mY (s2b z_3)) 0 true))]) (us := [([40], some (.arr (mY (s2b z_3)) 0 true))]) (by kernel_rfl) (gives_cons (ws := [([40], some (.arr (mY (s2b z_3)) 0 true))]) (give_ref (e := (D.int .u8)) (l := (s2b z_3)) (fz := false) (by kernel_rfl) (by kernel_rfl) rfl) gives_nil) hc_5 (by kernel_rfl) (by kernel_rfl))) <| Rc 6 [⟨.tup [.d (Image.d r_5.1), .i r_5.2], []⟩, ⟨.d (Image.d r_5.1), []⟩, vi r_5.2, ⟨.ptr [11] 0 0, [([11], some (.cells [.nils, .nils, .w 0, .w 0, .w 0, .w 0, .i 0] 0))]⟩, ⟨.tup [], [([11], some (.cells [.d (.sl (mY r_5.1.Bytes)), .d (.sl (List.map (D.int .i64) r_5.1.Relocs)), .w r_5.1.CS, .w r_5.1.IP, .w r_5.1.SS, .w r_5.1.SP, .i r_5.1.Min] 0))]⟩, vi r_5.2] <| Rk <| Sq <| Ro ?_
 obtain ⟨r_6, hr_6, h⟩ := bind_s h
 have hc_6 := hansomlaw44_awake_L r_6 hr_6
 refine Rt (some 44) (.callf 33) [] none [] (.b r_6) [] (cc hc_6) <| Rc 1 [vb r_6] ?_
 cases hb_1 : (r_6 : Bool) with
 | true =>
  replace h := ite_t hb_1 h
  refine Rc 1 [⟨.d (Image.d r_1), []⟩] ?_
  obtain ⟨r_7, hr_7, h⟩ := bind_s h
  have hc_7 := mz_May_L r_1 r_7 hr_7
  refine Rt (some 47) (.callf 34) [] none [.d (Image.d r_1)] (.b r_7) [] (cc hc_7) <| Rc 2 [vb r_7, vb r_7] ?_
  cases hb_2 : (r_7 : Bool) with
  | true =>
   replace h := ite_t hb_2 h
   refine Rc 4 [vi r_3.2, vb (r_3.2 == 0), vb (r_3.2 == 0), vb (r_3.2 == 0)] ?_
   cases hb_3 : ((r_3.2 == 0) : Bool) with
   | true =>
    replace h := ite_t hb_3 h
    refine Rc 1 [⟨.d (.sl (mY r_3.1)), []⟩] <| Rt (some 55) .bytesStr [] none [.d (.sl (mY r_3.1))] (.d (.str (b2s r_3.1))) [] (cut_bs _) <| Rc 4 [⟨.d (.str r_2), []⟩, vb ((b2s r_3.1) == r_2), vb ((b2s r_3.1) == r_2), vb ((b2s r_3.1) == r_2)] ?_
    cases hb_4 : (((b2s r_3.1) == r_2) : Bool) with
    | true =>
     replace h := ite_t hb_4 h
     refine Rc 4 [vi r_4.2, vb (r_4.2 == 0), vb (r_4.2 == 0), vb (r_4.2 == 0)] ?_
     cases hb_5 : ((r_4.2 == 0) : Bool) with
     | true =>
      replace h := ite_t hb_5 h
      refine Rc 2 [⟨.d (Image.d r_1), []⟩, ⟨.d (Image.d r_4.1), []⟩] ?_
      obtain ⟨r_8, hr_8, h⟩ := bind_s h
      have hc_8 := hansomref44_Same_L r_1 r_4.1 r_8 hr_8
      refine Rt (some 66) (.callf 35) [] none [.d (Image.d r_1), .d (Image.d r_4.1)] (.b r_8) [] (cc hc_8) <| Rc 2 [vb r_8, vb r_8] ?_
      cases hb_6 : (r_8 : Bool) with
      | true =>
       replace h := ite_t hb_6 h
       refine Rc 4 [vi r_5.2, vb (r_5.2 == 2), vb (r_5.2 == 2), vb (r_5.2 == 2)] <| Rk <| Runs.ret ?_
       cases h
       exact Fq
      | false =>
       replace h := ite_f hb_6 h
       refine Rc 4 [vn, vn, vb false, vb false] <| Rk <| Runs.ret ?_
       cases h
       exact Fq
     | false =>
      replace h := ite_f hb_5 h
      refine Rc 9 [vn, vn, vn, vb false, vb false, vn, vn, vb false, vb false] <| Rk <| Runs.ret ?_
      cases h
      exact Fq
    | false =>
     replace h := ite_f hb_4 h
     refine Rc 13 [vn, vn, vb false, vb false, vn, vn, vn, vb false, vb false, vn, vn, vb false, vb false] <| Rk <| Runs.ret ?_
     cases h
     exact Fq
   | false =>
    replace h := ite_f hb_3 h
    refine Rc 19 [vn, vn, vn, vn, vb false, vb false, vn, vn, vb false, vb false, vn, vn, vn, vb false, vb false, vn, vn, vb false, vb false] <| Rk <| Runs.ret ?_
    cases h
    exact Fq
  | false =>
   replace h := ite_f hb_2 h
   refine Rc 23 [vn, vn, vb false, vb false, vn, vn, vn, vn, vb false, vb false, vn, vn, vb false, vb false, vn, vn, vn, vb false, vb false, vn, vn, vb false, vb false] <| Rk <| Runs.ret ?_
   cases h
   exact Fq
 | false =>
  replace h := ite_f hb_1 h
  refine Rc 27 [vn, vn, vb false, vb false, vn, vn, vb false, vb false, vn, vn, vn, vn, vb false, vb false, vn, vn, vb false, vb false, vn, vn, vn, vb false, vb false, vn, vn, vb false, vb false] <| Rk <| Runs.ret ?_
  cases h
  exact Fq
theorem hansomlaw44_MzBack_L (x_ : Image) (more_ : (List UInt8)) (r : Bool) (h : hansomlaw44_MzBack x_ more_ = some r) : L 6 [.d (Image.d x_), .d (.str more_)] = some (.b r, [.d (Image.d x_), .d (.str more_)]) := by
 obtain ⟨p, ⟨hne, hf⟩, hr⟩ := hansomlaw44_MzBack_ok x_ more_ r h
 obtain ⟨k, hk⟩ := run_of (F := F6) (args := [.d (Image.d x_), .d (.str more_)]) (ap := [.d (Image.d x_), .d (.str more_)]) (bx0 := updW (fun _ => none) []) rfl rfl (by kernel_rfl) ⟨p, ⟨hne, hf⟩, hr⟩
 exact lim_run (k := k) rfl hk
def hansomlaw44_MzOrder_h22n (y7 : Image) (b_28 : (List Int)) (by2 : Int) (i10 : Int) (k11 : Int) (j12 : Int) (v_28 : Nat) (n_28 : Nat) : St := ⟨tab [(2, .i by2), (7, .ptr [7] 0 0), (9, .ref [28] v_28 0 n_28 1), (10, .i i10), (11, .i k11), (12, .i j12)], tabB [([7], some (.cells [.d (.sl (mY y7.Bytes)), .d (.sl (List.map (D.int .i64) y7.Relocs)), .w y7.CS, .w y7.IP, .w y7.SS, .w y7.SP, .i y7.Min] 0)), ([28], some (.arr (mY b_28) v_28 false))]⟩
def hansomlaw44_MzOrder_h22 (y7 : Image) (b_28 : (List Int)) (by2 : Int) (i10 : Int) (k11 : Int) (j12 : Int) (v_28 : Nat) : St := hansomlaw44_MzOrder_h22n y7 b_28 by2 i10 k11 j12 v_28 (mY b_28).length
def hansomlaw44_MzOrder_h33 (y7 : Image) (b_28 : (List Int)) (by2 : Int) (i10 : Int) (v_28 : Nat) : St := ⟨tab [(2, .i by2), (7, .ptr [7] 0 0), (9, .ref [28] v_28 0 (mY b_28).length 1), (10, .i i10)], tabB [([7], some (.cells [.d (.sl (mY y7.Bytes)), .d (.sl (List.map (D.int .i64) y7.Relocs)), .w y7.CS, .w y7.IP, .w y7.SS, .w y7.SP, .i y7.Min] 0)), ([28], some (.arr (mY b_28) v_28 false))]⟩
def hansomlaw44_MzOrder_Q (x_ : Image) (swap_ : Int) (by_ : Int) (r : Bool) (p : Out × St) : Prop := (∀ i, p.1 ≠ .exit i) ∧ finF F9 [.d (Image.d x_), .i swap_, .i by_] p.2 = some (.b r, [.d (Image.d x_), .i swap_, .i by_])
def hansomlaw44_MzOrder_P22 (x_ : Image) (swap_ : Int) (by_ : Int) (y7 : Image) (by2 : Int) (i10 : Int) (k11 : Int) (e : (List Int)) (p : Out × St) : Prop := p.1 = .exit 0 ∧ ∃ g : Nat, Canon [] [2, 7, 9, 10] [[7], [28]] p.2 (hansomlaw44_MzOrder_h33 y7 e by2 i10 g)
theorem hansomlaw44_MzOrder_l22_ok (x_ : Image) (swap_ : Int) (by_ : Int) (y7 : Image) (b_28 : (List Int)) (by2 : Int) (i10 : Int) (k11 : Int) (j12 : Int) (v_28 : Nat) (r : (Lp ((List Int) × Int) (List Int))) (h : hansomlaw44_MzOrder_l22 y7 b_28 by2 i10 k11 j12 = some r) : Runs L F9l22 (hansomlaw44_MzOrder_h22 y7 b_28 by2 i10 k11 j12 v_28) (LQ [] [2, 7, 9, 10, 11, 12] [[7], [28]] (fun (x : ((List Int) × Int)) (g : Nat) => hansomlaw44_MzOrder_h22 y7 x.1 by2 i10 k11 x.2 g) (hansomlaw44_MzOrder_P22 x_ swap_ by_ y7 by2 i10 k11) r) := by
 unfold hansomlaw44_MzOrder_l22 at h
 refine Sq <| Sq <| Ro <| Rc 2 [vi j12, vb (decide (j12 < 4))] <| Rk ?_
 cases hb_2 : ((decide (j12 < 4)) : Bool) with
 | true =>
  replace h := ite_t hb_2 h
  refine Ct <| Runs.skip <| kS_nrm <| Sq <| Runs.block <| Ro <| Rc 12 [⟨.ref [28] v_28 0 (mY b_28).length 1, []⟩, vi i10, vi j12, vi (IntKind.wrap .i64 (i10 + j12)), ⟨.ref [28] v_28 0 (mY b_28).length 1, []⟩, vi k11, vi j12, vi (IntKind.wrap .i64 (k11 + j12)), ⟨.ref [28] v_28 0 (mY b_28).length 1, []⟩, vi k11, vi j12, vi (IntKind.wrap .i64 (k11 + j12))] ?_
  obtain ⟨z_3, hz_3, h⟩ := bind_s h
  refine Rt (some 58) (.iaddrS 1) [] none [.ref [28] v_28 0 (mY b_28).length 1, .i (IntKind.wrap .i64 (k11 + j12))] (.eref [28] v_28 (0 + ((IntKind.wrap .i64 (k11 + j12))).toNat) 0) [] (cut_atR (e := (D.int .u8)) (l := b_28) hz_3 rfl) <| Rt (some 59) (.load none) [] none [.eref [28] v_28 (0 + ((IntKind.wrap .i64 (k11 + j12))).toNat) 0] (.y z_3) [] (cut_loadR (e := (D.int .u8)) (l := b_28) (fz := false) (y := z_3) (by kernel_rfl) hz_3 (by kernel_rfl) (by kernel_rfl)) <| Rc 4 [⟨.ref [28] v_28 0 (mY b_28).length 1, []⟩, vi i10, vi j12, vi (IntKind.wrap .i64 (i10 + j12))] ?_
  obtain ⟨z_4, hz_4, h⟩ := bind_s h
  refine Rt (some 64) (.iaddrS 1) [] none [.ref [28] v_28 0 (mY b_28).length 1, .i (IntKind.wrap .i64 (i10 + j12))] (.eref [28] v_28 (0 + ((IntKind.wrap .i64 (i10 + j12))).toNat) 0) [] (cut_atR (e := (D.int .u8)) (l := b_28) hz_4 rfl) <| Rt (some 65) (.load none) [] none [.eref [28] v_28 (0 + ((IntKind.wrap .i64 (i10 + j12))).toNat) 0] (.y z_4) [] (cut_loadR (e := (D.int .u8)) (l := b_28) (fz := false) (y := z_4) (by kernel_rfl) hz_4 (by kernel_rfl) (by kernel_rfl)) ?_
  obtain ⟨z_5, hz_5, h⟩ := bind_s h
  refine Rt (some 66) (.iaddrS 1) [] none [.ref [28] v_28 0 (mY b_28).length 1, .i (IntKind.wrap .i64 (i10 + j12))] (.eref [28] v_28 (0 + ((IntKind.wrap .i64 (i10 + j12))).toNat) 0) [] (cut_atR (e := (D.int .u8)) (l := b_28) hz_5 rfl) <| Rt none (.store 1) [] none [.eref [28] v_28 (0 + ((IntKind.wrap .i64 (i10 + j12))).toNat) 0, .y z_3] (.tup []) [([28], some (.arr (mY (List.set b_28 ((IntKind.wrap .i64 (i10 + j12))).toNat z_3)) v_28 false))] (cut_setR (e := (D.int .u8)) (l := b_28) (y := z_5) (y' := z_3) (ds := [.int .u8 z_3]) (by kernel_rfl) hz_5 (by kernel_rfl) (by kernel_rfl) (by kernel_rfl) (by kernel_rfl)) ?_
  obtain ⟨z_6, hz_6, h⟩ := bind_s h
  refine Rt (some 67) (.iaddrS 1) [] none [.ref [28] v_28 0 (mY b_28).length 1, .i (IntKind.wrap .i64 (k11 + j12))] (.eref [28] v_28 (0 + ((IntKind.wrap .i64 (k11 + j12))).toNat) 0) [] (cut_atR (e := (D.int .u8)) (l := (List.set b_28 ((IntKind.wrap .i64 (i10 + j12))).toNat z_3)) hz_6 (by simp only [List.length_map, List.length_set, cpy_length] : (mY b_28).length = (mY (List.set b_28 ((IntKind.wrap .i64 (i10 + j12))).toNat z_3)).length)) <| Rt none (.store 1) [] none [.eref [28] v_28 (0 + ((IntKind.wrap .i64 (k11 + j12))).toNat) 0, .y z_4] (.tup []) [([28], some (.arr (mY (List.set (List.set b_28 ((IntKind.wrap .i64 (i10 + j12))).toNat z_3) ((IntKind.wrap .i64 (k11 + j12))).toNat z_4)) v_28 false))] (cut_setR (e := (D.int .u8)) (l := (List.set b_28 ((IntKind.wrap .i64 (i10 + j12))).toNat z_3)) (y := z_6) (y' := z_4) (ds := [.int .u8 z_4]) (by kernel_rfl) hz_6 (by kernel_rfl) (by kernel_rfl) (by kernel_rfl) (by kernel_rfl)) <| Rd <| kB_nrm <| kS_nrm <| Ro <| Rc 3 [vi j12, vi (IntKind.wrap .i64 (j12 + 1)), vi (IntKind.wrap .i64 (j12 + 1))] <| Rd ?_
  obtain rfl := sj h
  exact ⟨rfl, v_28, (Canon.len (f := fun n => hansomlaw44_MzOrder_h22n y7 (List.set (List.set b_28 ((IntKind.wrap .i64 (i10 + j12))).toNat z_3) ((IntKind.wrap .i64 (k11 + j12))).toNat z_4) by2 i10 k11 (IntKind.wrap .i64 (j12 + 1)) v_28 n) ((by simp only [List.length_map, List.length_set, cpy_length] : (mY b_28).length = (mY (List.set (List.set b_28 ((IntKind.wrap .i64 (i10 + j12))).toNat z_3) ((IntKind.wrap .i64 (k11 + j12))).toNat z_4)).length)).symm Cz)⟩
 | false =>
  replace h := ite_f hb_2 h
  refine Cf <| Runs.exit <| kS_exit ?_
  obtain rfl := sj h
  exact ⟨nofun, rfl, v_28, Cz⟩
theorem hansomlaw44_MzOrder_ok (x_ : Image) (swap_ : Int) (by_ : Int) (r : Bool) (h : hansomlaw44_MzOrder x_ swap_ by_ = some r) : Runs L F9.body ⟨tmOf [.d (Image.d x_), .i swap_, .i by_] 0, updW (fun _ => none) []⟩ (hansomlaw44_MzOrder_Q x_ swap_ by_ r) := by
 unfold hansomlaw44_MzOrder at h
 refine Sq <| Ro <| Rc 2 [⟨.ptr [3] 0 0, [([3], some (.cells [.d (.sl (mY x_.Bytes)), .d (.sl (List.map (D.int .i64) x_.Relocs)), .w x_.CS, .w x_.IP, .w x_.SS, .w x_.SP, .i x_.Min] 0))]⟩, vb false] <| Rk <| Sq <| Ro <| Rc 1 [⟨.d (Image.d x_), []⟩] ?_
 obtain ⟨r_1, hr_1, h⟩ := bind_s h
 have hc_1 := hansomref44_Near_L x_ r_1 hr_1
 refine Rt (some 19) (.callf 29) [] none [.d (Image.d x_)] (.d (Image.d r_1)) [] (cc hc_1) <| Rc 2 [⟨.ptr [7] 0 0, [([7], some (.cells [.nils, .nils, .w 0, .w 0, .w 0, .w 0, .i 0] 0))]⟩, ⟨.tup [], [([7], some (.cells [.d (.sl (mY r_1.Bytes)), .d (.sl (List.map (D.int .i64) r_1.Relocs)), .w r_1.CS, .w r_1.IP, .w r_1.SS, .w r_1.SP, .i r_1.Min] 0))]⟩] <| Rk <| Sq <| Ro <| Rc 2 [vp [7] 0 1, ⟨.d (.sl (List.map (D.int .i64) r_1.Relocs)), []⟩] <| Rt (some 22) .lenL [] none [.d (.sl (List.map (D.int .i64) r_1.Relocs))] (.i (r_1.Relocs.length : Int)) [] (cut_len _) <| Rc 1 [vi (r_1.Relocs.length : Int)] <| Rk <| Sq <| Sq <| Ro <| Rc 2 [vi (r_1.Relocs.length : Int), vb (decide ((r_1.Relocs.length : Int) < 2))] <| Rk ?_
 cases hb_1 : ((decide ((r_1.Relocs.length : Int) < 2)) : Bool) with
 | true =>
  replace h := ite_t hb_1 h
  refine Ct <| Sq <| Ro ?_
  obtain ⟨r_2, hr_2, h⟩ := bind_s h
  have hc_2 := hansomlaw44_awake_L r_2 hr_2
  refine Rt (some 25) (.callf 33) [] none [] (.b r_2) [] (cc hc_2) <| Rc 1 [vb r_2] <| Rk <| Runs.ret <| kS_ret ?_
  cases h
  exact Fq
 | false =>
  replace h := ite_f hb_1 h
  refine Cf <| Runs.skip <| kS_nrm <| Sq <| Ro <| Rc 1 [⟨.d (Image.d r_1), []⟩] ?_
  obtain ⟨r_3, hr_3, h⟩ := bind_s h
  have hc_3 := hansomref44_Write_L r_1 r_3 hr_3
  refine Rt (some 27) (.callf 30) [] none [.d (Image.d r_1)] (.d (.str r_3)) [] (cc hc_3) <| Rt (some 28) .strBytes [] none [.d (.str r_3)] (.ref [28] 0 0 (mY (s2b r_3)).length 1) [([28], some (.arr (mY (s2b r_3)) 0 false))] (cut_sb _ (by kernel_rfl)) <| Rc 1 [⟨.ref [28] 0 0 (mY (s2b r_3)).length 1, []⟩] <| Rk <| Sq <| Ro <| Rc 3 [vi swap_, vi (bitsOp .and .i64 swap_ 255), vi (r_1.Relocs.length : Int)] ?_
  obtain ⟨z_1, hz_1, h⟩ := bind_s h
  refine Rt (some 32) (.bin .rem) [] none [.i (bitsOp .and .i64 swap_ 255), .i (r_1.Relocs.length : Int)] (.i z_1) [] (cut_rem hz_1) <| Rc 6 [vi (IntKind.wrap .i64 (4 * z_1)), vi (IntKind.wrap .i64 (28 + (IntKind.wrap .i64 (4 * z_1)))), vi swap_, vi (shrI .i64 swap_ 8), vi (bitsOp .and .i64 (shrI .i64 swap_ 8) 255), vi (r_1.Relocs.length : Int)] ?_
  obtain ⟨z_2, hz_2, h⟩ := bind_s h
  refine Rt (some 39) (.bin .rem) [] none [.i (bitsOp .and .i64 (shrI .i64 swap_ 8) 255), .i (r_1.Relocs.length : Int)] (.i z_2) [] (cut_rem hz_2) <| Rc 4 [vi (IntKind.wrap .i64 (4 * z_2)), vi (IntKind.wrap .i64 (28 + (IntKind.wrap .i64 (4 * z_2)))), vi (IntKind.wrap .i64 (28 + (IntKind.wrap .i64 (4 * z_1)))), vi (IntKind.wrap .i64 (28 + (IntKind.wrap .i64 (4 * z_2))))] <| Rk <| Sq <| Sq <| Ro <| Rc 1 [vi 0] <| Rk <| Runs.block ?_
  obtain ⟨e_1, he_1, h⟩ := bind_s h
  refine Runs.loop (fun x : ((List Int) × Int) => hansomlaw44_MzOrder_l22 r_1 x.1 by_ (IntKind.wrap .i64 (28 + (IntKind.wrap .i64 (4 * z_1)))) (IntKind.wrap .i64 (28 + (IntKind.wrap .i64 (4 * z_2)))) x.2) (fun (x : ((List Int) × Int)) (g : Nat) => hansomlaw44_MzOrder_h22 r_1 x.1 by_ (IntKind.wrap .i64 (28 + (IntKind.wrap .i64 (4 * z_1)))) (IntKind.wrap .i64 (28 + (IntKind.wrap .i64 (4 * z_2)))) x.2 g) (hansomlaw44_MzOrder_P22 x_ swap_ by_ r_1 by_ (IntKind.wrap .i64 (28 + (IntKind.wrap .i64 (4 * z_1)))) (IntKind.wrap .i64 (28 + (IntKind.wrap .i64 (4 * z_2))))) (fun x g r hr => hansomlaw44_MzOrder_l22_ok x_ swap_ by_ r_1 x.1 by_ (IntKind.wrap .i64 (28 + (IntKind.wrap .i64 (4 * z_1)))) (IntKind.wrap .i64 (28 + (IntKind.wrap .i64 (4 * z_2)))) x.2 g r hr) 0 he_1 Cz ?_
  rintro ⟨o, s⟩ hp
  obtain ⟨ho, g_1, hk_1⟩ := hp
  have ho' : o = .exit 0 := ho
  subst ho'
  refine kB_hit <| kS_nrm <| Runs.canon _ hk_1 <| Sq <| Ro <| Rc 3 [⟨.ref [28] g_1 0 (mY e_1).length 1, []⟩, vi (IntKind.wrap .i64 (28 + (IntKind.wrap .i64 (4 * z_1)))), vi (IntKind.wrap .i64 ((IntKind.wrap .i64 (28 + (IntKind.wrap .i64 (4 * z_1)))) + 2))] ?_
  obtain ⟨z_3, hz_3, h⟩ := bind_s h
  refine Rt (some 71) (.iaddrS 1) [] none [.ref [28] g_1 0 (mY e_1).length 1, .i (IntKind.wrap .i64 ((IntKind.wrap .i64 (28 + (IntKind.wrap .i64 (4 * z_1)))) + 2))] (.eref [28] g_1 (0 + ((IntKind.wrap .i64 ((IntKind.wrap .i64 (28 + (IntKind.wrap .i64 (4 * z_1)))) + 2))).toNat) 0) [] (cut_atR (e := (D.int .u8)) (l := e_1) hz_3 rfl) <| Rt (some 72) (.load none) [] none [.eref [28] g_1 (0 + ((IntKind.wrap .i64 ((IntKind.wrap .i64 (28 + (IntKind.wrap .i64 (4 * z_1)))) + 2))).toNat) 0] (.y z_3) [] (cut_loadR (e := (D.int .u8)) (l := e_1) (fz := false) (y := z_3) (by kernel_rfl) hz_3 (by kernel_rfl) (by kernel_rfl)) <| Rc 4 [vi (IntKind.wrap .i64 z_3), ⟨.ref [28] g_1 0 (mY e_1).length 1, []⟩, vi (IntKind.wrap .i64 (28 + (IntKind.wrap .i64 (4 * z_1)))), vi (IntKind.wrap .i64 ((IntKind.wrap .i64 (28 + (IntKind.wrap .i64 (4 * z_1)))) + 3))] ?_
  obtain ⟨z_4, hz_4, h⟩ := bind_s h
  refine Rt (some 77) (.iaddrS 1) [] none [.ref [28] g_1 0 (mY e_1).length 1, .i (IntKind.wrap .i64 ((IntKind.wrap .i64 (28 + (IntKind.wrap .i64 (4 * z_1)))) + 3))] (.eref [28] g_1 (0 + ((IntKind.wrap .i64 ((IntKind.wrap .i64 (28 + (IntKind.wrap .i64 (4 * z_1)))) + 3))).toNat) 0) [] (cut_atR (e := (D.int .u8)) (l := e_1) hz_4 rfl) <| Rt (some 78) (.load none) [] none [.eref [28] g_1 (0 + ((IntKind.wrap .i64 ((IntKind.wrap .i64 (28 + (IntKind.wrap .i64 (4 * z_1)))) + 3))).toNat) 0] (.y z_4) [] (cut_loadR (e := (D.int .u8)) (l := e_1) (fz := false) (y := z_4) (by kernel_rfl) hz_4 (by kernel_rfl) (by kernel_rfl)) <| Rc 4 [vi (IntKind.wrap .i64 z_4), vi (IntKind.wrap .i64 (256 * (IntKind.wrap .i64 z_4))), vi (IntKind.wrap .i64 ((IntKind.wrap .i64 z_3) + (IntKind.wrap .i64 (256 * (IntKind.wrap .i64 z_4))))), vi (IntKind.wrap .i64 ((IntKind.wrap .i64 z_3) + (IntKind.wrap .i64 (256 * (IntKind.wrap .i64 z_4)))))] <| Rk <| Sq <| Ro <| Rc 2 [⟨.ref [28] g_1 0 (mY e_1).length 1, []⟩, vi (IntKind.wrap .i64 (28 + (IntKind.wrap .i64 (4 * z_1))))] ?_
  obtain ⟨z_5, hz_5, h⟩ := bind_s h
  refine Rt (some 84) (.iaddrS 1) [] none [.ref [28] g_1 0 (mY e_1).length 1, .i (IntKind.wrap .i64 (28 + (IntKind.wrap .i64 (4 * z_1))))] (.eref [28] g_1 (0 + ((IntKind.wrap .i64 (28 + (IntKind.wrap .i64 (4 * z_1))))).toNat) 0) [] (cut_atR (e := (D.int .u8)) (l := e_1) hz_5 rfl) <| Rt (some 85) (.load none) [] none [.eref [28] g_1 (0 + ((IntKind.wrap .i64 (28 + (IntKind.wrap .i64 (4 * z_1))))).toNat) 0] (.y z_5) [] (cut_loadR (e := (D.int .u8)) (l := e_1) (fz := false) (y := z_5) (by kernel_rfl) hz_5 (by kernel_rfl) (by kernel_rfl)) <| Rc 4 [vi (IntKind.wrap .i64 z_5), ⟨.ref [28] g_1 0 (mY e_1).length 1, []⟩, vi (IntKind.wrap .i64 (28 + (IntKind.wrap .i64 (4 * z_1)))), vi (IntKind.wrap .i64 ((IntKind.wrap .i64 (28 + (IntKind.wrap .i64 (4 * z_1)))) + 1))] ?_
  obtain ⟨z_6, hz_6, h⟩ := bind_s h
  refine Rt (some 90) (.iaddrS 1) [] none [.ref [28] g_1 0 (mY e_1).length 1, .i (IntKind.wrap .i64 ((IntKind.wrap .i64 (28 + (IntKind.wrap .i64 (4 * z_1)))) + 1))] (.eref [28] g_1 (0 + ((IntKind.wrap .i64 ((IntKind.wrap .i64 (28 + (IntKind.wrap .i64 (4 * z_1)))) + 1))).toNat) 0) [] (cut_atR (e := (D.int .u8)) (l := e_1) hz_6 rfl) <| Rt (some 91) (.load none) [] none [.eref [28] g_1 (0 + ((IntKind.wrap .i64 ((IntKind.wrap .i64 (28 + (IntKind.wrap .i64 (4 * z_1)))) + 1))).toNat) 0] (.y z_6) [] (cut_loadR (e := (D.int .u8)) (l := e_1) (fz := false) (y := z_6) (by kernel_rfl) hz_6 (by kernel_rfl) (by kernel_rfl)) <| Rc 4 [vi (IntKind.wrap .i64 z_6), vi (IntKind.wrap .i64 (256 * (IntKind.wrap .i64 z_6))), vi (IntKind.wrap .i64 ((IntKind.wrap .i64 z_5) + (IntKind.wrap .i64 (256 * (IntKind.wrap .i64 z_6))))), vi (IntKind.wrap .i64 ((IntKind.wrap .i64 z_5) + (IntKind.wrap .i64 (256 * (IntKind.wrap .i64 z_6)))))] <| Rk <| Sq <| Ro <| Rc 4 [vi by_, vi (bitsOp .and .i64 by_ 255), vi (IntKind.wrap .i64 ((IntKind.wrap .i64 z_3) + (IntKind.wrap .i64 (256 * (IntKind.wrap .i64 z_4))))), vi (IntKind.wrap .i64 ((IntKind.wrap .i64 ((IntKind.wrap .i64 z_3) + (IntKind.wrap .i64 (256 * (IntKind.wrap .i64 z_4))))) + 1))] ?_
  obtain ⟨z_7, hz_7, h⟩ := bind_s h
  refine Rt (some 99) (.bin .rem) [] none [.i (bitsOp .and .i64 by_ 255), .i (IntKind.wrap .i64 ((IntKind.wrap .i64 ((IntKind.wrap .i64 z_3) + (IntKind.wrap .i64 (256 * (IntKind.wrap .i64 z_4))))) + 1))] (.i z_7) [] (cut_rem hz_7) <| Rc 1 [vi z_7] <| Rk <| Sq <| Ro <| Rc 4 [vi (IntKind.wrap .i64 ((IntKind.wrap .i64 z_3) + (IntKind.wrap .i64 (256 * (IntKind.wrap .i64 z_4))))), vi z_7, vi (IntKind.wrap .i64 ((IntKind.wrap .i64 ((IntKind.wrap .i64 z_3) + (IntKind.wrap .i64 (256 * (IntKind.wrap .i64 z_4))))) - z_7)), vi (IntKind.wrap .i64 ((IntKind.wrap .i64 ((IntKind.wrap .i64 z_3) + (IntKind.wrap .i64 (256 * (IntKind.wrap .i64 z_4))))) - z_7))] <| Rk <| Sq <| Ro <| Rc 5 [vi (IntKind.wrap .i64 ((IntKind.wrap .i64 z_5) + (IntKind.wrap .i64 (256 * (IntKind.wrap .i64 z_6))))), vi z_7, vi (IntKind.wrap .i64 (16 * z_7)), vi (IntKind.wrap .i64 ((IntKind.wrap .i64 ((IntKind.wrap .i64 z_5) + (IntKind.wrap .i64 (256 * (IntKind.wrap .i64 z_6))))) + (IntKind.wrap .i64 (16 * z_7)))), vi (IntKind.wrap .i64 ((IntKind.wrap .i64 ((IntKind.wrap .i64 z_5) + (IntKind.wrap .i64 (256 * (IntKind.wrap .i64 z_6))))) + (IntKind.wrap .i64 (16 * z_7))))] <| Rk <| Sq <| Ro <| Rc 21 [⟨.ref [28] g_1 0 (mY e_1).length 1, []⟩, vi (IntKind.wrap .i64 (28 + (IntKind.wrap .i64 (4 * z_1)))), ⟨.ref [28] g_1 0 (mY e_1).length 1, []⟩, vi (IntKind.wrap .i64 (28 + (IntKind.wrap .i64 (4 * z_1)))), vi (IntKind.wrap .i64 ((IntKind.wrap .i64 (28 + (IntKind.wrap .i64 (4 * z_1)))) + 1)), ⟨.ref [28] g_1 0 (mY e_1).length 1, []⟩, vi (IntKind.wrap .i64 (28 + (IntKind.wrap .i64 (4 * z_1)))), vi (IntKind.wrap .i64 ((IntKind.wrap .i64 (28 + (IntKind.wrap .i64 (4 * z_1)))) + 2)), ⟨.ref [28] g_1 0 (mY e_1).length 1, []⟩, vi (IntKind.wrap .i64 (28 + (IntKind.wrap .i64 (4 * z_1)))), vi (IntKind.wrap .i64 ((IntKind.wrap .i64 (28 + (IntKind.wrap .i64 (4 * z_1)))) + 3)), vi (IntKind.wrap .i64 ((IntKind.wrap .i64 ((IntKind.wrap .i64 z_5) + (IntKind.wrap .i64 (256 * (IntKind.wrap .i64 z_6))))) + (IntKind.wrap .i64 (16 * z_7)))), vy (IntKind.wrap .u8 (IntKind.wrap .i64 ((IntKind.wrap .i64 ((IntKind.wrap .i64 z_5) + (IntKind.wrap .i64 (256 * (IntKind.wrap .i64 z_6))))) + (IntKind.wrap .i64 (16 * z_7))))), vi (IntKind.wrap .i64 ((IntKind.wrap .i64 ((IntKind.wrap .i64 z_5) + (IntKind.wrap .i64 (256 * (IntKind.wrap .i64 z_6))))) + (IntKind.wrap .i64 (16 * z_7)))), vi (shrI .i64 (IntKind.wrap .i64 ((IntKind.wrap .i64 ((IntKind.wrap .i64 z_5) + (IntKind.wrap .i64 (256 * (IntKind.wrap .i64 z_6))))) + (IntKind.wrap .i64 (16 * z_7)))) 8), vy (IntKind.wrap .u8 (shrI .i64 (IntKind.wrap .i64 ((IntKind.wrap .i64 ((IntKind.wrap .i64 z_5) + (IntKind.wrap .i64 (256 * (IntKind.wrap .i64 z_6))))) + (IntKind.wrap .i64 (16 * z_7)))) 8)), vi (IntKind.wrap .i64 ((IntKind.wrap .i64 ((IntKind.wrap .i64 z_3) + (IntKind.wrap .i64 (256 * (IntKind.wrap .i64 z_4))))) - z_7)), vy (IntKind.wrap .u8 (IntKind.wrap .i64 ((IntKind.wrap .i64 ((IntKind.wrap .i64 z_3) + (IntKind.wrap .i64 (256 * (IntKind.wrap .i64 z_4))))) - z_7))), vi (IntKind.wrap .i64 ((IntKind.wrap .i64 ((IntKind.wrap .i64 z_3) + (IntKind.wrap .i64 (256 * (IntKind.wrap .i64 z_4))))) - z_7)), vi (shrI .i64 (IntKind.wrap .i64 ((IntKind.wrap .i64 ((IntKind.wrap .i64 z_3) + (IntKind.wrap .i64 (256 * (IntKind.wrap .i64 z_4))))) - z_7)) 8), vy (IntKind.wrap .u8 (shrI .i64 (IntKind.wrap .i64 ((IntKind.wrap .i64 ((IntKind.wrap .i64 z_3) + (IntKind.wrap .i64 (256 * (IntKind.wrap .i64 z_4))))) - z_7)) 8))] ?_
  obtain ⟨z_8, hz_8, h⟩ := bind_s h
  refine Rt (some 128) (.iaddrS 1) [] none [.ref [28] g_1 0 (mY e_1).length 1, .i (IntKind.wrap .i64 (28 + (IntKind.wrap .i64 (4 * z_1))))] (.eref [28] g_1 (0 + ((IntKind.wrap .i64 (28 + (IntKind.wrap .i64 (4 * z_1))))).toNat) 0) [] (cut_atR (e := (D.int .u8)) (l := e_1) hz_8 rfl) <| Rt none (.store 1) [] none [.eref [28] g_1 (0 + ((IntKind.wrap .i64 (28 + (IntKind.wrap .i64 (4 * z_1))))).toNat) 0, .y (IntKind.wrap .u8 (IntKind.wrap .i64 ((IntKind.wrap .i64 ((IntKind.wrap .i64 z_5) + (IntKind.wrap .i64 (256 * (IntKind.wrap .i64 z_6))))) + (IntKind.wrap .i64 (16 * z_7)))))] (.tup []) [([28], some (.arr (mY (List.set e_1 ((IntKind.wrap .i64 (28 + (IntKind.wrap .i64 (4 * z_1))))).toNat (IntKind.wrap .u8 (IntKind.wrap .i64 ((IntKind.wrap .i64 ((IntKind.wrap .i64 z_5) + (IntKind.wrap .i64 (256 * (IntKind.wrap .i64 z_6))))) + (IntKind.wrap .i64 (16 * z_7))))))) g_1 false))] (cut_setR (e := (D.int .u8)) (l := e_1) (y := z_8) (y' := (IntKind.wrap .u8 (IntKind.wrap .i64 ((IntKind.wrap .i64 ((IntKind.wrap .i64 z_5) + (IntKind.wrap .i64 (256 * (IntKind.wrap .i64 z_6))))) + (IntKind.wrap .i64 (16 * z_7)))))) (ds := [.int .u8 (IntKind.wrap .u8 (IntKind.wrap .i64 ((IntKind.wrap .i64 ((IntKind.wrap .i64 z_5) + (IntKind.wrap .i64 (256 * (IntKind.wrap .i64 z_6))))) + (IntKind.wrap .i64 (16 * z_7)))))]) (by kernel_rfl) hz_8 (by kernel_rfl) (by kernel_rfl) (by kernel_rfl) (by kernel_rfl)) ?_
  obtain ⟨z_9, hz_9, h⟩ := bind_s h
  refine Rt (some 129) (.iaddrS 1) [] none [.ref [28] g_1 0 (mY e_1).length 1, .i (IntKind.wrap .i64 ((IntKind.wrap .i64 (28 + (IntKind.wrap .i64 (4 * z_1)))) + 1))] (.eref [28] g_1 (0 + ((IntKind.wrap .i64 ((IntKind.wrap .i64 (28 + (IntKind.wrap .i64 (4 * z_1)))) + 1))).toNat) 0) [] (cut_atR (e := (D.int .u8)) (l := (List.set e_1 ((IntKind.wrap .i64 (28 + (IntKind.wrap .i64 (4 * z_1))))).toNat (IntKind.wrap .u8 (IntKind.wrap .i64 ((IntKind.wrap .i64 ((IntKind.wrap .i64 z_5) + (IntKind.wrap .i64 (256 * (IntKind.wrap .i64 z_6))))) + (IntKind.wrap .i64 (16 * z_7))))))) hz_9 (by simp only [List.length_map, List.length_set, cpy_length] : (mY e_1).length = (mY (List.set e_1 ((IntKind.wrap .i64 (28 + (IntKind.wrap .i64 (4 * z_1))))).toNat (IntKind.wrap .u8 (IntKind.wrap .i64 ((IntKind.wrap .i64 ((IntKind.wrap .i64 z_5) + (IntKind.wrap .i64 (256 * (IntKind.wrap .i64 z_6))))) + (IntKind.wrap .i64 (16 * z_7))))))).length)) <| Rt none (.store 1) [] none [.eref [28] g_1 (0 + ((IntKind.wrap .i64 ((IntKind.wrap .i64 (28 + (IntKind.wrap .i64 (4 * z_1)))) + 1))).toNat) 0, .y (IntKind.wrap .u8 (shrI .i64 (IntKind.wrap .i64 ((IntKind.wrap .i64 ((IntKind.wrap .i64 z_5) + (IntKind.wrap .i64 (256 * (IntKind.wrap .i64 z_6))))) + (IntKind.wrap .i64 (16 * z_7)))) 8))] (.tup []) [([28], some (.arr (mY (List.set (List.set e_1 ((IntKind.wrap .i64 (28 + (IntKind.wrap .i64 (4 * z_1))))).toNat (IntKind.wrap .u8 (IntKind.wrap .i64 ((IntKind.wrap .i64 ((IntKind.wrap .i64 z_5) + (IntKind.wrap .i64 (256 * (IntKind.wrap .i64 z_6))))) + (IntKind.wrap .i64 (16 * z_7)))))) ((IntKind.wrap .i64 ((IntKind.wrap .i64 (28 + (IntKind.wrap .i64 (4 * z_1)))) + 1))).toNat (IntKind.wrap .u8 (shrI .i64 (IntKind.wrap .i64 ((IntKind.wrap .i64 ((IntKind.wrap .i64 z_5) + (IntKind.wrap .i64 (256 * (IntKind.wrap .i64 z_6))))) + (IntKind.wrap .i64 (16 * z_7)))) 8)))) g_1 false))] (cut_setR (e := (D.int .u8)) (l := (List.set e_1 ((IntKind.wrap .i64 (28 + (IntKind.wrap .i64 (4 * z_1))))).toNat (IntKind.wrap .u8 (IntKind.wrap .i64 ((IntKind.wrap .i64 ((IntKind.wrap .i64 z_5) + (IntKind.wrap .i64 (256 * (IntKind.wrap .i64 z_6))))) + (IntKind.wrap .i64 (16 * z_7))))))) (y := z_9) (y' := (IntKind.wrap .u8 (shrI .i64 (IntKind.wrap .i64 ((IntKind.wrap .i64 ((IntKind.wrap .i64 z_5) + (IntKind.wrap .i64 (256 * (IntKind.wrap .i64 z_6))))) + (IntKind.wrap .i64 (16 * z_7)))) 8))) (ds := [.int .u8 (IntKind.wrap .u8 (shrI .i64 (IntKind.wrap .i64 ((IntKind.wrap .i64 ((IntKind.wrap .i64 z_5) + (IntKind.wrap .i64 (256 * (IntKind.wrap .i64 z_6))))) + (IntKind.wrap .i64 (16 * z_7)))) 8))]) (by kernel_rfl) hz_9 (by kernel_rfl) (by kernel_rfl) (by kernel_rfl) (by kernel_rfl)) ?_
  obtain ⟨z_10, hz_10, h⟩ := bind_s h
  refine Rt (some 130) (.iaddrS 1) [] none [.ref [28] g_1 0 (mY e_1).length 1, .i (IntKind.wrap .i64 ((IntKind.wrap .i64 (28 + (IntKind.wrap .i64 (4 * z_1)))) + 2))] (.eref [28] g_1 (0 + ((IntKind.wrap .i64 ((IntKind.wrap .i64 (28 + (IntKind.wrap .i64 (4 * z_1)))) + 2))).toNat) 0) [] (cut_atR (e := (D.int .u8)) (l := (List.set (List.set e_1 ((IntKind.wrap .i64 (28 + (IntKind.wrap .i64 (4 * z_1))))).toNat (IntKind.wrap .u8 (IntKind.wrap .i64 ((IntKind.wrap .i64 ((IntKind.wrap .i64 z_5) + (IntKind.wrap .i64 (256 * (IntKind.wrap .i64 z_6))))) + (IntKind.wrap .i64 (16 * z_7)))))) ((IntKind.wrap .i64 ((IntKind.wrap .i64 (28 + (IntKind.wrap .i64 (4 * z_1)))) + 1))).toNat (IntKind.wrap .u8 (shrI .i64 (IntKind.wrap .i64 ((IntKind.wrap .i64 ((IntKind.wrap .i64 z_5) + (IntKind.wrap .i64 (256 * (IntKind.wrap .i64 z_6))))) + (IntKind.wrap .i64 (16 * z_7)))) 8)))) hz_10 (by simp only [List.length_map, List.length_set, cpy_length] : (mY e_1).length = (mY (List.set (List.set e_1 ((IntKind.wrap .i64 (28 + (IntKind.wrap .i64 (4 * z_1))))).toNat (IntKind.wrap .u8 (IntKind.wrap .i64 ((IntKind.wrap .i64 ((IntKind.wrap .i64 z_5) + (IntKind.wrap .i64 (256 * (IntKind.wrap .i64 z_6))))) + (IntKind.wrap .i64 (16 * z_7)))))) ((IntKind.wrap .i64 ((IntKind.wrap .i64 (28 + (IntKind.wrap .i64 (4 * z_1)))) + 1))).toNat (IntKind.wrap .u8 (shrI .i64 (IntKind.wrap .i64 ((IntKind.wrap .i64 ((IntKind.wrap .i64 z_5) + (IntKind.wrap .i64 (256 * (IntKind.wrap .i64 z_6))))) + (IntKind.wrap .i64 (16 * z_7)))) 8)))).length)) ?_
  refine Rt none (.store 1) [] none [.eref [28] g_1 (0 + ((IntKind.wrap .i64 ((IntKind.wrap .i64 (28 + (IntKind.wrap .i64 (4 * z_1)))) + 2))).toNat) 0, .y (IntKind.wrap .u8 (IntKind.wrap .i64 ((IntKind.wrap .i64 ((IntKind.wrap .i64 z_3) + (IntKind.wrap .i64 (256 * (IntKind.wrap .i64 z_4))))) - z_7)))] (.tup []) [([28], some (.arr (mY (List.set (List.set (List.set e_1 ((IntKind.wrap .i64 (28 + (IntKind.wrap .i64 (4 * z_1))))).toNat (IntKind.wrap .u8 (IntKind.wrap .i64 ((IntKind.wrap .i64 ((IntKind.wrap .i64 z_5) + (IntKind.wrap .i64 (256 * (IntKind.wrap .i64 z_6))))) + (IntKind.wrap .i64 (16 * z_7)))))) ((IntKind.wrap .i64 ((IntKind.wrap .i64 (28 + (IntKind.wrap .i64 (4 * z_1)))) + 1))).toNat (IntKind.wrap .u8 (shrI .i64 (IntKind.wrap .i64 ((IntKind.wrap .i64 ((IntKind.wrap .i64 z_5) + (IntKind.wrap .i64 (256 * (IntKind.wrap .i64 z_6))))) + (IntKind.wrap .i64 (16 * z_7)))) 8))) ((IntKind.wrap .i64 ((IntKind.wrap .i64 (28 + (IntKind.wrap .i64 (4 * z_1)))) + 2))).toNat (IntKind.wrap .u8 (IntKind.wrap .i64 ((IntKind.wrap .i64 ((IntKind.wrap .i64 z_3) + (IntKind.wrap .i64 (256 * (IntKind.wrap .i64 z_4))))) - z_7))))) g_1 false))] (cut_setR (e := (D.int .u8)) (l := (List.set (List.set e_1 ((IntKind.wrap .i64 (28 + (IntKind.wrap .i64 (4 * z_1))))).toNat (IntKind.wrap .u8 (IntKind.wrap .i64 ((IntKind.wrap .i64 ((IntKind.wrap .i64 z_5) + (IntKind.wrap .i64 (256 * (IntKind.wrap .i64 z_6))))) + (IntKind.wrap .i64 (16 * z_7)))))) ((IntKind.wrap .i64 ((IntKind.wrap .i64 (28 + (IntKind.wrap .i64 (4 * z_1)))) + 1))).toNat (IntKind.wrap .u8 (shrI .i64 (IntKind.wrap .i64 ((IntKind.wrap .i64 ((IntKind.wrap .i64 z_5) + (IntKind.wrap .i64 (256 * (IntKind.wrap .i64 z_6))))) + (IntKind.wrap .i64 (16 * z_7)))) 8)))) (y := z_10) (y' := (IntKind.wrap .u8 (IntKind.wrap .i64 ((IntKind.wrap .i64 ((IntKind.wrap .i64 z_3) + (IntKind.wrap .i64 (256 * (IntKind.wrap .i64 z_4))))) - z_7)))) (ds := [.int .u8 (IntKind.wrap .u8 (IntKind.wrap .i64 ((IntKind.wrap .i64 ((IntKind.wrap .i64 z_3) + (IntKind.wrap .i64 (256 * (IntKind.wrap .i64 z_4))))) - z_7)))]) (by kernel_rfl) hz_10 (by kernel_rfl) (by kernel_rfl) (by kernel_rfl) (by kernel_rfl)) ?_
  obtain ⟨z_11, hz_11, h⟩ := bind_s h
  refine Rt (some 131) (.iaddrS 1) [] none [.ref [28] g_1 0 (mY e_1).length 1, .i (IntKind.wrap .i64 ((IntKind.wrap .i64 (28 + (IntKind.wrap .i64 (4 * z_1)))) + 3))] (.eref [28] g_1 (0 + ((IntKind.wrap .i64 ((IntKind.wrap .i64 (28 + (IntKind.wrap .i64 (4 * z_1)))) + 3))).toNat) 0) [] (cut_atR (e := (D.int .u8)) (l := (List.set (List.set (List.set e_1 ((IntKind.wrap .i64 (28 + (IntKind.wrap .i64 (4 * z_1))))).toNat (IntKind.wrap .u8 (IntKind.wrap .i64 ((IntKind.wrap .i64 ((IntKind.wrap .i64 z_5) + (IntKind.wrap .i64 (256 * (IntKind.wrap .i64 z_6))))) + (IntKind.wrap .i64 (16 * z_7)))))) ((IntKind.wrap .i64 ((IntKind.wrap .i64 (28 + (IntKind.wrap .i64 (4 * z_1)))) + 1))).toNat (IntKind.wrap .u8 (shrI .i64 (IntKind.wrap .i64 ((IntKind.wrap .i64 ((IntKind.wrap .i64 z_5) + (IntKind.wrap .i64 (256 * (IntKind.wrap .i64 z_6))))) + (IntKind.wrap .i64 (16 * z_7)))) 8))) ((IntKind.wrap .i64 ((IntKind.wrap .i64 (28 + (IntKind.wrap .i64 (4 * z_1)))) + 2))).toNat (IntKind.wrap .u8 (IntKind.wrap .i64 ((IntKind.wrap .i64 ((IntKind.wrap .i64 z_3) + (IntKind.wrap .i64 (256 * (IntKind.wrap .i64 z_4))))) - z_7))))) hz_11 (by simp only [List.length_map, List.length_set, cpy_length] : (mY e_1).length = (mY (List.set (List.set (List.set e_1 ((IntKind.wrap .i64 (28 + (IntKind.wrap .i64 (4 * z_1))))).toNat (IntKind.wrap .u8 (IntKind.wrap .i64 ((IntKind.wrap .i64 ((IntKind.wrap .i64 z_5) + (IntKind.wrap .i64 (256 * (IntKind.wrap .i64 z_6))))) + (IntKind.wrap .i64 (16 * z_7)))))) ((IntKind.wrap .i64 ((IntKind.wrap .i64 (28 + (IntKind.wrap .i64 (4 * z_1)))) + 1))).toNat (IntKind.wrap .u8 (shrI .i64 (IntKind.wrap .i64 ((IntKind.wrap .i64 ((IntKind.wrap .i64 z_5) + (IntKind.wrap .i64 (256 * (IntKind.wrap .i64 z_6))))) + (IntKind.wrap .i64 (16 * z_7)))) 8))) ((IntKind.wrap .i64 ((IntKind.wrap .i64 (28 + (IntKind.wrap .i64 (4 * z_1)))) + 2))).toNat (IntKind.wrap .u8 (IntKind.wrap .i64 ((IntKind.wrap .i64 ((IntKind.wrap .i64 z_3) + (IntKind.wrap .i64 (256 * (IntKind.wrap .i64 z_4))))) - z_7))))).length)) ?_
  refine Rt none (.store 1) [] none [.eref [28] g_1 (0 + ((IntKind.wrap .i64 ((IntKind.wrap .i64 (28 + (IntKind.wrap .i64 (4 * z_1)))) + 3))).toNat) 0, .y (IntKind.wrap .u8 (shrI .i64 (IntKind.wrap .i64 ((IntKind.wrap .i64 ((IntKind.wrap .i64 z_3) + (IntKind.wrap .i64 (256 * (IntKind.wrap .i64 z_4))))) - z_7)) 8))] (.tup []) [([28], some (.arr (mY (List.set (List.set (List.set (List.set e_1 ((IntKind.wrap .i64 (28 + (IntKind.wrap .i64 (4 * z_1))))).toNat (IntKind.wrap .u8 (IntKind.wrap .i64 ((IntKind.wrap .i64 ((IntKind.wrap .i64 z_5) + (IntKind.wrap .i64 (256 * (IntKind.wrap .i64 z_6))))) + (IntKind.wrap .i64 (16 * z_7)))))) ((IntKind.wrap .i64 ((IntKind.wrap .i64 (28 + (IntKind.wrap .i64 (4 * z_1)))) + 1))).toNat (IntKind.wrap .u8 (shrI .i64 (IntKind.wrap .i64 ((IntKind.wrap .i64 ((IntKind.wrap .i64 z_5) + (IntKind.wrap .i64 (256 * (IntKind.wrap .i64 z_6))))) + (IntKind.wrap .i64 (16 * z_7)))) 8))) ((IntKind.wrap .i64 ((IntKind.wrap .i64 (28 + (IntKind.wrap .i64 (4 * z_1)))) + 2))).toNat (IntKind.wrap .u8 (IntKind.wrap .i64 ((IntKind.wrap .i64 ((IntKind.wrap .i64 z_3) + (IntKind.wrap .i64 (256 * (IntKind.wrap .i64 z_4))))) - z_7)))) ((IntKind.wrap .i64 ((IntKind.wrap .i64 (28 + (IntKind.wrap .i64 (4 * z_1)))) + 3))).toNat (IntKind.wrap .u8 (shrI .i64 (IntKind.wrap .i64 ((IntKind.wrap .i64 ((IntKind.wrap .i64 z_3) + (IntKind.wrap .i64 (256 * (IntKind.wrap .i64 z_4))))) - z_7)) 8)))) g_1 false))] (cut_setR (e := (D.int .u8)) (l := (List.set (List.set (List.set e_1 ((IntKind.wrap .i64 (28 + (IntKind.wrap .i64 (4 * z_1))))).toNat (IntKind.wrap .u8 (IntKind.wrap .i64 ((IntKind.wrap .i64 ((IntKind.wrap .i64 z_5) + (IntKind.wrap .i64 (256 * (IntKind.wrap .i64 z_6))))) + (IntKind.wrap .i64 (16 * z_7)))))) ((IntKind.wrap .i64 ((IntKind.wrap .i64 (28 + (IntKind.wrap .i64 (4 * z_1)))) + 1))).toNat (IntKind.wrap .u8 (shrI .i64 (IntKind.wrap .i64 ((IntKind.wrap .i64 ((IntKind.wrap .i64 z_5) + (IntKind.wrap .i64 (256 * (IntKind.wrap .i64 z_6))))) + (IntKind.wrap .i64 (16 * z_7)))) 8))) ((IntKind.wrap .i64 ((IntKind.wrap .i64 (28 + (IntKind.wrap .i64 (4 * z_1)))) + 2))).toNat (IntKind.wrap .u8 (IntKind.wrap .i64 ((IntKind.wrap .i64 ((IntKind.wrap .i64 z_3) + (IntKind.wrap .i64 (256 * (IntKind.wrap .i64 z_4))))) - z_7))))) (y := z_11) (y' := (IntKind.wrap .u8 (shrI .i64 (IntKind.wrap .i64 ((IntKind.wrap .i64 ((IntKind.wrap .i64 z_3) + (IntKind.wrap .i64 (256 * (IntKind.wrap .i64 z_4))))) - z_7)) 8))) (ds := [.int .u8 (IntKind.wrap .u8 (shrI .i64 (IntKind.wrap .i64 ((IntKind.wrap .i64 ((IntKind.wrap .i64 z_3) + (IntKind.wrap .i64 (256 * (IntKind.wrap .i64 z_4))))) - z_7)) 8))]) (by kernel_rfl) hz_11 (by kernel_rfl) (by kernel_rfl) (by kernel_rfl) (by kernel_rfl)) ?_
  refine Rk <| Sq <| Ro <| Rc 1 [⟨.ref [28] g_1 0 (mY e_1).length 1, []⟩] ?_
  obtain ⟨r_4, hr_4, h⟩ := bind_s h
  have hc_4 := mz_Read_L (List.set (List.set (List.set (List.set e_1 ((IntKind.wrap .i64 (28 + (IntKind.wrap .i64 (4 * z_1))))).toNat (IntKind.wrap .u8 (IntKind.wrap .i64 ((IntKind.wrap .i64 ((IntKind.wrap .i64 z_5) + (IntKind.wrap .i64 (256 * (IntKind.wrap .i64 z_6))))) + (IntKind.wrap .i64 (16 * z_7)))))) ((IntKind.wrap .i64 ((IntKind.wrap .i64 (28 + (IntKind.wrap .i64 (4 * z_1)))) + 1))).toNat (IntKind.wrap .u8 (shrI .i64 (IntKind.wrap .i64 ((IntKind.wrap .i64 ((IntKind.wrap .i64 z_5) + (IntKind.wrap .i64 (256 * (IntKind.wrap .i64 z_6))))) + (IntKind.wrap .i64 (16 * z_7)))) 8))) ((IntKind.wrap .i64 ((IntKind.wrap .i64 (28 + (IntKind.wrap .i64 (4 * z_1)))) + 2))).toNat (IntKind.wrap .u8 (IntKind.wrap .i64 ((IntKind.wrap .i64 ((IntKind.wrap .i64 z_3) + (IntKind.wrap .i64 (256 * (IntKind.wrap .i64 z_4))))) - z_7)))) ((IntKind.wrap .i64 ((IntKind.wrap .i64 (28 + (IntKind.wrap .i64 (4 * z_1)))) + 3))).toNat (IntKind.wrap .u8 (shrI .i64 (IntKind.wrap .i64 ((IntKind.wrap .i64 ((IntKind.wrap .i64 z_3) + (IntKind.wrap .i64 (256 * (IntKind.wrap .i64 z_4))))) - z_7)) 8))) r_4 hr_4
  refine Rt (some 134) (.callf 32) [] none [.ref [28] g_1 0 (mY e_1).length 1] (.tup [.d (Image.d r_4.1), .i r_4.2]) [([28], some (.arr (mY (List.set (List.set (List.set (List.set e_1 ((IntKind.wrap .i64 (28 + (IntKind.wrap .i64 (4 * z_1))))).toNat (IntKind.wrap .u8 (IntKind.wrap .i64 ((IntKind.wrap .i64 ((IntKind.wrap .i64 z_5) + (IntKind.wrap .i64 (256 * (IntKind.wrap .i64 z_6))))) + (IntKind.wrap .i64 (16 * z_7)))))) ((IntKind.wrap .i64 ((IntKind.wrap .i64 (28 + (IntKind.wrap .i64 (4 * z_1)))) + 1))).toNat (IntKind.wrap .u8 (shrI .i64 (IntKind.wrap .i64 ((IntKind.wrap .i64 ((IntKind.wrap .i64 z_5) + (IntKind.wrap .i64 (256 * (IntKind.wrap .i64 z_6))))) + (IntKind.wrap .i64 (16 * z_7)))) 8))) ((IntKind.wrap .i64 ((IntKind.wrap .i64 (28 + (IntKind.wrap .i64 (4 * z_1)))) + 2))).toNat (IntKind.wrap .u8 (IntKind.wrap .i64 ((IntKind.wrap .i64 ((IntKind.wrap .i64 z_3) + (IntKind.wrap .i64 (256 * (IntKind.wrap .i64 z_4))))) - z_7)))) ((IntKind.wrap .i64 ((IntKind.wrap .i64 (28 + (IntKind.wrap .i64 (4 * z_1)))) + 3))).toNat (IntKind.wrap .u8 (shrI .i64 (IntKind.wrap .i64 ((IntKind.wrap .i64 ((IntKind.wrap .i64 z_3) + (IntKind.wrap .i64 (256 * (IntKind.wrap .i64 z_4))))) - z_7)) 8)))) g_1 true))] (cut_call (call_of (ws := [([28], some (.arr (mY (List.set (List.set (List.set (List.set e_1 ((IntKind.wrap .i64 (28 + (IntKind.wrap .i64 (4 * z_1))))).toNat (IntKind.wrap .u8 (IntKind.wrap .i64 ((IntKind.wrap .i64 ((IntKind.wrap .i64 z_5) + (IntKind.wrap .i64 (256 * (IntKind.wrap .i64 z_6))))) + (IntKind.wrap .i64 (16 * z_7)))))) ((IntKind.wrap .i64 ((IntKind.wrap .i64 (28 + (IntKind.wrap .i64 (4 * z_1)))) + 1))).toNat (IntKind.wrap .u8 (shrI .i64 (IntKind.wrap .i64 ((IntKind.wrap .i64 ((IntKind.wrap .i64 z_5) + (IntKind.wrap .i64 (256 * (IntKind.wrap .i64 z_6))))) + (IntKind.wrap .i64 (16 * z_7)))) 8))) ((IntKind.wrap .i64 ((IntKind.wrap .i64 (28 + (IntKind.wrap .i64 (4 * z_1)))) + 2))).toNat (IntKind.wrap .u8 (IntKind.wrap .i64 ((IntKind.wrap .i64 ((IntKind.wrap .i64 z_3) + (IntKind.wrap .i64 (256 * (IntKind.wrap .i64 z_4))))) - z_7)))) ((IntKind.wrap .i64 ((IntKind.wrap .i64 (28 + (IntKind.wrap .i64 (4 * z_1)))) + 3))).toNat (IntKind.wrap .u8 (shrI .i64 (IntKind.wrap .i64 ((IntKind.wrap .i64 ((IntKind.wrap .i64 z_3) + (IntKind.wrap .i64 (256 * (IntKind.wrap .i64 z_4))))) - z_7)) 8)))) g_1 true))]) (us := [([28], some (.arr (mY (List.set (List.set (List.set (List.set e_1 ((IntKind.wrap .i64 (28 + (IntKind.wrap .i64 (4 * z_1))))).toNat (IntKind.wrap .u8 (IntKind.wrap .i64 ((IntKind.wrap .i64 ((IntKind.wrap .i64 z_5) + (IntKind.wrap .i64 (256 * (IntKind.wrap .i64 z_6))))) + (IntKind.wrap .i64 (16 * z_7)))))) ((IntKind.wrap .i64 ((IntKind.wrap .i64 (28 + (IntKind.wrap .i64 (4 * z_1)))) + 1))).toNat (IntKind.wrap .u8 (shrI .i64 (IntKind.wrap .i64 ((IntKind.wrap .i64 ((IntKind.wrap .i64 z_5) + (IntKind.wrap .i64 (256 * (IntKind.wrap .i64 z_6))))) + (IntKind.wrap .i64 (16 * z_7)))) 8))) ((IntKind.wrap .i64 ((IntKind.wrap .i64 (28 + (IntKind.wrap .i64 (4 * z_1)))) + 2))).toNat (IntKind.wrap .u8 (IntKind.wrap .i64 ((IntKind.wrap .i64 ((IntKind.wrap .i64 z_3) + (IntKind.wrap .i64 (256 * (IntKind.wrap .i64 z_4))))) - z_7)))) ((IntKind.wrap .i64 ((IntKind.wrap .i64 (28 + (IntKind.wrap .i64 (4 * z_1)))) + 3))).toNat (IntKind.wrap .u8 (shrI .i64 (IntKind.wrap .i64 ((IntKind.wrap .i64 ((IntKind.wrap .i64 z_3) + (IntKind.wrap .i64 (256 * (IntKind.wrap .i64 z_4))))) - z_7)) 8)))) g_1 true))]) (by kernel_rfl) (gives_cons (ws := [([28], some (.arr (mY (List.set (List.set (List.set (List.set e_1 ((IntKind.wrap .i64 (28 + (IntKind.wrap .i64 (4 * z_1))))).toNat (IntKind.wrap .u8 (IntKind.wrap .i64 ((IntKind.wrap .i64 ((IntKind.wrap .i64 z_5) + (IntKind.wrap .i64 (256 * (IntKind.wrap .i64 z_6))))) + (IntKind.wrap .i64 (16 * z_7)))))) ((IntKind.wrap .i64 ((IntKind.wrap .i64 (28 + (IntKind.wrap .i64 (4 * z_1)))) + 1))).toNat (IntKind.wrap .u8 (shrI .i64 (IntKind.wrap .i64 ((IntKind.wrap .i64 ((IntKind.wrap .i64 z_5) + (IntKind.wrap .i64 (256 * (IntKind.wrap .i64 z_6))))) + (IntKind.wrap .i64 (16 * z_7)))) 8))) ((IntKind.wrap .i64 ((IntKind.wrap .i64 (28 + (IntKind.wrap .i64 (4 * z_1)))) + 2))).toNat (IntKind.wrap .u8 (IntKind.wrap .i64 ((IntKind.wrap .i64 ((IntKind.wrap .i64 z_3) + (IntKind.wrap .i64 (256 * (IntKind.wrap .i64 z_4))))) - z_7)))) ((IntKind.wrap .i64 ((IntKind.wrap .i64 (28 + (IntKind.wrap .i64 (4 * z_1)))) + 3))).toNat (IntKind.wrap .u8 (shrI .i64 (IntKind.wrap .i64 ((IntKind.wrap .i64 ((IntKind.wrap .i64 z_3) + (IntKind.wrap .i64 (256 * (IntKind.wrap .i64 z_4))))) - z_7)) 8)))) g_1 true))]) (give_ref (e := (D.int .u8)) (l := (List.set (List.set (List.set (List.set e_1 ((IntKind.wrap .i64 (28 + (IntKind.wrap .i64 (4 * z_1))))).toNat (IntKind.wrap .u8 (IntKind.wrap .i64 ((IntKind.wrap .i64 ((IntKind.wrap .i64 z_5) + (IntKind.wrap .i64 (256 * (IntKind.wrap .i64 z_6))))) + (IntKind.wrap .i64 (16 * z_7)))))) ((IntKind.wrap .i64 ((IntKind.wrap .i64 (28 + (IntKind.wrap .i64 (4 * z_1)))) + 1))).toNat (IntKind.wrap .u8 (shrI .i64 (IntKind.wrap .i64 ((IntKind.wrap .i64 ((IntKind.wrap .i64 z_5) + (IntKind.wrap .i64 (256 * (IntKind.wrap .i64 z_6))))) + (IntKind.wrap .i64 (16 * z_7)))) 8))) ((IntKind.wrap .i64 ((IntKind.wrap .i64 (28 + (IntKind.wrap .i64 (4 * z_1)))) + 2))).toNat (IntKind.wrap .u8 (IntKind.wrap .i64 ((IntKind.wrap .i64 ((IntKind.wrap .i64 z_3) + (IntKind.wrap .i64 (256 * (IntKind.wrap .i64 z_4))))) - z_7)))) ((IntKind.wrap .i64 ((IntKind.wrap .i64 (28 + (IntKind.wrap .i64 (4 * z_1)))) + 3))).toNat (IntKind.wrap .u8 (shrI .i64 (IntKind.wrap .i64 ((IntKind.wrap .i64 ((IntKind.wrap .i64 z_3) + (IntKind.wrap .i64 (256 * (IntKind.wrap .i64 z_4))))) - z_7)) 8)))) (fz := false) (by kernel_rfl) (by kernel_rfl) (by simp only [List.length_map, List.length_set, cpy_length] : (mY e_1).length = (mY (List.set (List.set (List.set (List.set e_1 ((IntKind.wrap .i64 (28 + (IntKind.wrap .i64 (4 * z_1))))).toNat (IntKind.wrap .u8 (IntKind.wrap .i64 ((IntKind.wrap .i64 ((IntKind.wrap .i64 z_5) + (IntKind.wrap .i64 (256 * (IntKind.wrap .i64 z_6))))) + (IntKind.wrap .i64 (16 * z_7)))))) ((IntKind.wrap .i64 ((IntKind.wrap .i64 (28 + (IntKind.wrap .i64 (4 * z_1)))) + 1))).toNat (IntKind.wrap .u8 (shrI .i64 (IntKind.wrap .i64 ((IntKind.wrap .i64 ((IntKind.wrap .i64 z_5) + (IntKind.wrap .i64 (256 * (IntKind.wrap .i64 z_6))))) + (IntKind.wrap .i64 (16 * z_7)))) 8))) ((IntKind.wrap .i64 ((IntKind.wrap .i64 (28 + (IntKind.wrap .i64 (4 * z_1)))) + 2))).toNat (IntKind.wrap .u8 (IntKind.wrap .i64 ((IntKind.wrap .i64 ((IntKind.wrap .i64 z_3) + (IntKind.wrap .i64 (256 * (IntKind.wrap .i64 z_4))))) - z_7)))) ((IntKind.wrap .i64 ((IntKind.wrap .i64 (28 + (IntKind.wrap .i64 (4 * z_1)))) + 3))).toNat (IntKind.wrap .u8 (shrI .i64 (IntKind.wrap .i64 ((IntKind.wrap .i64 ((IntKind.wrap .i64 z_3) + (IntKind.wrap .i64 (256 * (IntKind.wrap .i64 z_4))))) - z_7)) 8)))).length)) gives_nil) hc_4 (by kernel_rfl) (by kernel_rfl))) ?_
  refine Rc 6 [⟨.tup [.d (Image.d r_4.1), .i r_4.2], []⟩, ⟨.d (Image.d r_4.1), []⟩, vi r_4.2, ⟨.ptr [16] 0 0, [([16], some (.cells [.nils, .nils, .w 0, .w 0, .w 0, .w 0, .i 0] 0))]⟩, ⟨.tup [], [([16], some (.cells [.d (.sl (mY r_4.1.Bytes)), .d (.sl (List.map (D.int .i64) r_4.1.Relocs)), .w r_4.1.CS, .w r_4.1.IP, .w r_4.1.SS, .w r_4.1.SP, .i r_4.1.Min] 0))]⟩, vi r_4.2] <| Rk <| Sq <| Ro ?_
  obtain ⟨r_5, hr_5, h⟩ := bind_s h
  have hc_5 := hansomlaw44_awake_L r_5 hr_5
  refine Rt (some 137) (.callf 33) [] none [] (.b r_5) [] (cc hc_5) <| Rc 1 [vb r_5] ?_
  cases hb_2 : (r_5 : Bool) with
  | true =>
   replace h := ite_t hb_2 h
   refine Rc 4 [vi r_4.2, vb (r_4.2 == 0), vb (r_4.2 == 0), vb (r_4.2 == 0)] ?_
   cases hb_3 : ((r_4.2 == 0) : Bool) with
   | true =>
    replace h := ite_t hb_3 h
    refine Rc 2 [⟨.d (Image.d r_1), []⟩, ⟨.d (Image.d r_4.1), []⟩] ?_
    obtain ⟨r_6, hr_6, h⟩ := bind_s h
    have hc_6 := hansomref44_Same_L r_1 r_4.1 r_6 hr_6
    refine Rt (some 145) (.callf 35) [] none [.d (Image.d r_1), .d (Image.d r_4.1)] (.b r_6) [] (cc hc_6) <| Rc 2 [vb r_6, vb r_6] <| Rk <| Runs.ret ?_
    cases h
    exact Fq
   | false =>
    replace h := ite_f hb_3 h
    refine Rc 5 [vn, vn, vn, vb false, vb false] <| Rk <| Runs.ret ?_
    cases h
    exact Fq
  | false =>
   replace h := ite_f hb_2 h
   refine Rc 9 [vn, vn, vb false, vb false, vn, vn, vn, vb false, vb false] <| Rk <| Runs.ret ?_
   cases h
   exact Fq
theorem hansomlaw44_MzOrder_L (x_ : Image) (swap_ : Int) (by_ : Int) (r : Bool) (h : hansomlaw44_MzOrder x_ swap_ by_ = some r) : L 9 [.d (Image.d x_), .i swap_, .i by_] = some (.b r, [.d (Image.d x_), .i swap_, .i by_]) := by
 obtain ⟨p, ⟨hne, hf⟩, hr⟩ := hansomlaw44_MzOrder_ok x_ swap_ by_ r h
 obtain ⟨k, hk⟩ := run_of (F := F9) (args := [.d (Image.d x_), .i swap_, .i by_]) (ap := [.d (Image.d x_), .i swap_, .i by_]) (bx0 := updW (fun _ => none) []) rfl rfl (by kernel_rfl) ⟨p, ⟨hne, hf⟩, hr⟩
 exact lim_run (k := k) rfl hk
end Go.Es.Mzb
