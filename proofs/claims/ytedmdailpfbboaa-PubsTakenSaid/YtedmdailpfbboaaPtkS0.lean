/- The interpreter answers as plain Lean does: part 1. No condition. -/
import Derived.Test.YtedmdailpfbboaaPtkF
import Derived.Test.YtedmdailpfbboaaPtkP
import Derived.KernelRfl
set_option linter.unusedVariables false
set_option linter.unusedSimpArgs false
set_option maxRecDepth 100000
set_option maxHeartbeats 4000000
namespace Go.Es.Ptk
def hansomref18_Name_Q (s_ : (List UInt8)) (r : (List UInt8)) (p : Out × St) : Prop := (∀ i, p.1 ≠ .exit i) ∧ finF F19 [.d (.str s_)] p.2 = some (.d (.str r), [.d (.str s_)])
theorem hansomref18_Name_ok (s_ : (List UInt8)) (r : (List UInt8)) (h : hansomref18_Name s_ = some r) : Runs L F19.body ⟨tmOf [.d (.str s_)] 0, updW (fun _ => none) []⟩ (hansomref18_Name_Q s_ r) := by
  unfold hansomref18_Name at h
  refine Runs.seq ?_
  refine Runs.ops ?_
  refine RunAt.chunk 1 [⟨.d (.str ([] : List UInt8)), []⟩] (by kernel_rfl) ?_
  refine RunAt.done (by kernel_rfl) ?_
  refine kS_nrm ?_
  refine Runs.seq ?_
  refine Runs.seq ?_
  refine Runs.ops ?_
  refine RunAt.chunk 1 [⟨.d (.str s_), []⟩] (by kernel_rfl) ?_
  refine RunAt.cut (some 4) .lenS [] none [.d (.str s_)] (.d (.int .i64 (s_.length : Int))) [] (by kernel_rfl) (by kernel_rfl) (by kernel_rfl) (cut_lenS _) ?_
  refine RunAt.chunk 1 [⟨.d (.bool (decide ((s_.length : Int) > 255))), []⟩] (by kernel_rfl) ?_
  refine RunAt.done (by kernel_rfl) ?_
  refine kS_nrm ?_
  cases hb_1 : ((decide ((s_.length : Int) > 255)) : Bool) with
  | true =>
    replace h := ite_t hb_1 h
    refine Runs.cond_t (by kernel_rfl) ?_
    refine Runs.ops ?_
    refine RunAt.chunk 1 [⟨.d (.str s_), []⟩] (by kernel_rfl) ?_
    obtain ⟨z_1, hz_1, h⟩ := bind_s h
    refine RunAt.cut (some 7) (.substr false true) [] none [.d (.str s_), .d (.int .i64 255)] (.d (.str z_1)) [] (by kernel_rfl) (by kernel_rfl) (by kernel_rfl) (cut_strFT hz_1) ?_
    refine RunAt.chunk 1 [⟨.d (.str z_1), []⟩] (by kernel_rfl) ?_
    refine RunAt.done (by kernel_rfl) ?_
    refine kS_nrm ?_
    refine Runs.seq ?_
    refine Runs.ops ?_
    refine RunAt.chunk 1 [⟨.d (.str z_1), []⟩] (by kernel_rfl) ?_
    refine RunAt.cut (some 9) .lenS [] none [.d (.str z_1)] (.d (.int .i64 (z_1.length : Int))) [] (by kernel_rfl) (by kernel_rfl) (by kernel_rfl) (cut_lenS _) ?_
    refine RunAt.chunk 2 [⟨.d (.int .u8 (IntKind.wrap .u8 (z_1.length : Int))), []⟩, ⟨.ref [11] 0 0 (List.map (D.int .u8) ([(IntKind.wrap .u8 (z_1.length : Int))] : List Int)).length 1, [([11], some (.arr (List.map (D.int .u8) ([(IntKind.wrap .u8 (z_1.length : Int))] : List Int)) 0 false))]⟩] (by kernel_rfl) ?_
    refine RunAt.cut (some 12) .bytesStr [] none [.ref [11] 0 0 (List.map (D.int .u8) ([(IntKind.wrap .u8 (z_1.length : Int))] : List Int)).length 1] (.d (.str (b2s ([(IntKind.wrap .u8 (z_1.length : Int))] : List Int)))) [] (by kernel_rfl) (by kernel_rfl) (by kernel_rfl) (cut_bsR (l := ([(IntKind.wrap .u8 (z_1.length : Int))] : List Int)) (fz := false) (by kernel_rfl) (by kernel_rfl) rfl) ?_
    refine RunAt.chunk 1 [⟨.d (.str z_1), []⟩] (by kernel_rfl) ?_
    obtain ⟨z_2, hz_2, h⟩ := bind_s h
    refine RunAt.cut (some 14) (.bin .add) [] none [.d (.str (b2s ([(IntKind.wrap .u8 (z_1.length : Int))] : List Int))), .d (.str z_1)] (.d (.str z_2)) [] (by kernel_rfl) (by kernel_rfl) (by kernel_rfl) (cut_cat hz_2) ?_
    refine RunAt.chunk 1 [⟨.d (.str z_2), []⟩] (by kernel_rfl) ?_
    refine RunAt.done (by kernel_rfl) ?_
    refine kS_nrm ?_
    refine Runs.ret ?_
    obtain rfl := Option.some.inj h
    exact ⟨Out.ret_ne, (by kernel_rfl)⟩
  | false =>
    replace h := ite_f hb_1 h
    refine Runs.cond_f (by kernel_rfl) ?_
    refine Runs.skip ?_
    refine kS_nrm ?_
    refine Runs.seq ?_
    refine Runs.ops ?_
    refine RunAt.chunk 1 [⟨.d (.str s_), []⟩] (by kernel_rfl) ?_
    refine RunAt.cut (some 9) .lenS [] none [.d (.str s_)] (.d (.int .i64 (s_.length : Int))) [] (by kernel_rfl) (by kernel_rfl) (by kernel_rfl) (cut_lenS _) ?_
    refine RunAt.chunk 2 [⟨.d (.int .u8 (IntKind.wrap .u8 (s_.length : Int))), []⟩, ⟨.ref [11] 0 0 (List.map (D.int .u8) ([(IntKind.wrap .u8 (s_.length : Int))] : List Int)).length 1, [([11], some (.arr (List.map (D.int .u8) ([(IntKind.wrap .u8 (s_.length : Int))] : List Int)) 0 false))]⟩] (by kernel_rfl) ?_
    refine RunAt.cut (some 12) .bytesStr [] none [.ref [11] 0 0 (List.map (D.int .u8) ([(IntKind.wrap .u8 (s_.length : Int))] : List Int)).length 1] (.d (.str (b2s ([(IntKind.wrap .u8 (s_.length : Int))] : List Int)))) [] (by kernel_rfl) (by kernel_rfl) (by kernel_rfl) (cut_bsR (l := ([(IntKind.wrap .u8 (s_.length : Int))] : List Int)) (fz := false) (by kernel_rfl) (by kernel_rfl) rfl) ?_
    refine RunAt.chunk 1 [⟨.d (.str s_), []⟩] (by kernel_rfl) ?_
    obtain ⟨z_3, hz_3, h⟩ := bind_s h
    refine RunAt.cut (some 14) (.bin .add) [] none [.d (.str (b2s ([(IntKind.wrap .u8 (s_.length : Int))] : List Int))), .d (.str s_)] (.d (.str z_3)) [] (by kernel_rfl) (by kernel_rfl) (by kernel_rfl) (cut_cat hz_3) ?_
    refine RunAt.chunk 1 [⟨.d (.str z_3), []⟩] (by kernel_rfl) ?_
    refine RunAt.done (by kernel_rfl) ?_
    refine kS_nrm ?_
    refine Runs.ret ?_
    obtain rfl := Option.some.inj h
    exact ⟨Out.ret_ne, (by kernel_rfl)⟩
theorem hansomref18_Name_L (s_ : (List UInt8)) (r : (List UInt8)) (h : hansomref18_Name s_ = some r) : L 19 [.d (.str s_)] = some (.d (.str r), [.d (.str s_)]) := by
  obtain ⟨p, ⟨hne, hf⟩, hr⟩ := hansomref18_Name_ok s_ r h
  obtain ⟨k, hk⟩ := run_of (F := F19) (args := [.d (.str s_)]) (ap := [.d (.str s_)]) (bx0 := updW (fun _ => none) []) rfl rfl (by kernel_rfl) ⟨p, ⟨hne, hf⟩, hr⟩
  exact lim_run (k := k) rfl hk
def index_Name_Q (s_ : (List UInt8)) (r : (List Int)) (p : Out × St) : Prop := (∀ i, p.1 ≠ .exit i) ∧ finF F18 [.d (.str s_)] p.2 = some (.d (.sl (List.map (D.int .u8) r)), [.d (.str s_)])
theorem index_Name_ok (s_ : (List UInt8)) (r : (List Int)) (h : index_Name s_ = some r) : Runs L F18.body ⟨tmOf [.d (.str s_)] 0, updW (fun _ => none) []⟩ (index_Name_Q s_ r) := by
  unfold index_Name at h
  refine Runs.seq ?_
  refine Runs.ops ?_
  refine RunAt.chunk 1 [⟨.nils, []⟩] (by kernel_rfl) ?_
  refine RunAt.done (by kernel_rfl) ?_
  refine kS_nrm ?_
  refine Runs.seq ?_
  refine Runs.ops ?_
  refine RunAt.chunk 2 [⟨.d (.str s_), []⟩, ⟨.d (.str s_), []⟩] (by kernel_rfl) ?_
  refine RunAt.cut (some 5) .lenS [] none [.d (.str s_)] (.d (.int .i64 (s_.length : Int))) [] (by kernel_rfl) (by kernel_rfl) (by kernel_rfl) (cut_lenS _) ?_
  refine RunAt.chunk 1 [⟨.d (.int .i64 (mnI (s_.length : Int) 255)), []⟩] (by kernel_rfl) ?_
  obtain ⟨z_1, hz_1, h⟩ := bind_s h
  refine RunAt.cut (some 7) (.substr false true) [] none [.d (.str s_), .d (.int .i64 (mnI (s_.length : Int) 255))] (.d (.str z_1)) [] (by kernel_rfl) (by kernel_rfl) (by kernel_rfl) (cut_strFT hz_1) ?_
  refine RunAt.chunk 1 [⟨.d (.str z_1), []⟩] (by kernel_rfl) ?_
  refine RunAt.done (by kernel_rfl) ?_
  refine kS_nrm ?_
  refine Runs.seq ?_
  refine Runs.ops ?_
  refine RunAt.chunk 1 [⟨.d (.str z_1), []⟩] (by kernel_rfl) ?_
  refine RunAt.cut (some 9) .lenS [] none [.d (.str z_1)] (.d (.int .i64 (z_1.length : Int))) [] (by kernel_rfl) (by kernel_rfl) (by kernel_rfl) (cut_lenS _) ?_
  refine RunAt.chunk 3 [⟨.d (.int .u8 (IntKind.wrap .u8 (z_1.length : Int))), []⟩, ⟨.ref [11] 0 0 (List.map (D.int .u8) ([(IntKind.wrap .u8 (z_1.length : Int))] : List Int)).length 1, [([11], some (.arr (List.map (D.int .u8) ([(IntKind.wrap .u8 (z_1.length : Int))] : List Int)) 0 false))]⟩, ⟨.d (.str z_1), []⟩] (by kernel_rfl) ?_
  obtain ⟨z_2, hz_2, h⟩ := bind_s h
  refine RunAt.cut (some 13) (.append 1 1 true) [] none [.ref [11] 0 0 (List.map (D.int .u8) ([(IntKind.wrap .u8 (z_1.length : Int))] : List Int)).length 1, .d (.str z_1)] (.ref [11] 1 0 (List.map (D.int .u8) z_2).length 1) [([11], some (.arr (List.map (D.int .u8) z_2) 1 false))] (by kernel_rfl) (by kernel_rfl) (by kernel_rfl) (cut_appR (e := (D.int .u8)) (l := ([(IntKind.wrap .u8 (z_1.length : Int))] : List Int)) (fz := false) (ws := []) (ap_str _) (fun _ => rfl) hz_2 (by kernel_rfl) (by kernel_rfl) rfl) ?_
  refine RunAt.chunk 1 [⟨.ref [11] 1 0 (List.map (D.int .u8) z_2).length 1, []⟩] (by kernel_rfl) ?_
  refine RunAt.done (by kernel_rfl) ?_
  refine kS_nrm ?_
  refine Runs.seq ?_
  refine Runs.gcons (frz_ref (e := (D.int .u8)) (l := z_2) (id := [11]) (v := 1) (n := 1) (fz := false) (by kernel_rfl) (by kernel_rfl) rfl) ?_
  refine Runs.gnil ?_
  refine kS_nrm ?_
  refine Runs.ret ?_
  obtain rfl := Option.some.inj h
  exact ⟨Out.ret_ne, (by kernel_rfl)⟩
theorem index_Name_L (s_ : (List UInt8)) (r : (List Int)) (h : index_Name s_ = some r) : L 18 [.d (.str s_)] = some (.d (.sl (List.map (D.int .u8) r)), [.d (.str s_)]) := by
  obtain ⟨p, ⟨hne, hf⟩, hr⟩ := index_Name_ok s_ r h
  obtain ⟨k, hk⟩ := run_of (F := F18) (args := [.d (.str s_)]) (ap := [.d (.str s_)]) (bx0 := updW (fun _ => none) []) rfl rfl (by kernel_rfl) ⟨p, ⟨hne, hf⟩, hr⟩
  exact lim_run (k := k) rfl hk
def pubs_Externals_h4 (r3 : Record) (b_2_0 : Int) (l0 : (List (List UInt8))) (v_901_3 : Nat) : St := ⟨tab [(0, .d (.sl (List.map D.str l0))), (2, .ptr [2] 0 0), (3, .ptr [3] 0 0)], tabB [([2], some (.cells [.d (.int .u8 b_2_0), .nils] 0)), ([3], some (.cells [.d (.int .u8 r3.Kind), .ref [901, 3] v_901_3 0 (List.map (D.int .u8) r3.Body).length 1] 0)), ([901, 3], some (.arr (List.map (D.int .u8) r3.Body) v_901_3 false))]⟩
def pubs_Externals_h8 (r3 : Record) (b_2_0 : Int) (t7 : (List (List UInt8))) (t8 : Int) (t9 : Int) (v_901_3 : Nat) : St := ⟨tab [(2, .ptr [2] 0 0), (3, .ptr [3] 0 0), (7, .d (.sl (List.map D.str t7))), (8, .d (.int .i64 t8)), (9, .d (.int .i64 t9))], tabB [([2], some (.cells [.d (.int .u8 b_2_0), .nils] 0)), ([3], some (.cells [.d (.int .u8 r3.Kind), .ref [901, 3] v_901_3 0 (List.map (D.int .u8) r3.Body).length 1] 0)), ([901, 3], some (.arr (List.map (D.int .u8) r3.Body) v_901_3 false))]⟩
def pubs_Externals_h21 (r3 : Record) (b_2_0 : Int) (v_901_3 : Nat) : St := ⟨tab [(2, .ptr [2] 0 0), (3, .ptr [3] 0 0)], tabB [([2], some (.cells [.d (.int .u8 b_2_0), .nils] 0)), ([3], some (.cells [.d (.int .u8 r3.Kind), .ref [901, 3] v_901_3 0 (List.map (D.int .u8) r3.Body).length 1] 0)), ([901, 3], some (.arr (List.map (D.int .u8) r3.Body) v_901_3 false))]⟩
def pubs_Externals_Q (l_ : (List (List UInt8))) (r : Record) (p : Out × St) : Prop := (∀ i, p.1 ≠ .exit i) ∧ finF F54 [.d (.sl (List.map D.str l_))] p.2 = some (.d (Record.d r), [.d (.sl (List.map D.str l_))])
def pubs_Externals_P8 (l_ : (List (List UInt8))) (b_2_0 : Int) (t7 : (List (List UInt8))) (t8 : Int) (e : Record) (p : Out × St) : Prop := p.1 = .exit 0 ∧ ∃ g : Nat, Canon [] [2, 3] [[2], [3], [901, 3]] p.2 (pubs_Externals_h21 e b_2_0 g)
theorem pubs_Externals_l8_ok (l_ : (List (List UInt8))) (r3 : Record) (b_2_0 : Int) (t7 : (List (List UInt8))) (t8 : Int) (t9 : Int) (v_901_3 : Nat) (r : (Lp (Record × Int) Record)) (h : pubs_Externals_l8 r3 b_2_0 t7 t8 t9 = some r) : Runs L F54l8 (pubs_Externals_h8 r3 b_2_0 t7 t8 t9 v_901_3) (LQ [] [2, 3, 7, 8, 9] [[2], [3], [901, 3]] (fun (x : (Record × Int)) (g : Nat) => pubs_Externals_h8 x.1 b_2_0 t7 t8 x.2 g) (pubs_Externals_P8 l_ b_2_0 t7 t8) r) := by
  unfold pubs_Externals_l8 at h
  refine Runs.seq ?_
  refine Runs.ops ?_
  refine RunAt.chunk 1 [⟨.d (.bool (decide (t9 < t8))), []⟩] (by kernel_rfl) ?_
  refine RunAt.done (by kernel_rfl) ?_
  refine kS_nrm ?_
  refine Runs.seq ?_
  cases hb_1 : ((decide (t9 < t8)) : Bool) with
  | true =>
    replace h := ite_t hb_1 h
    refine Runs.cond_t (by kernel_rfl) ?_
    refine Runs.skip ?_
    refine kS_nrm ?_
    refine Runs.seq ?_
    refine Runs.block ?_
    refine Runs.seq ?_
    refine Runs.ops ?_
    obtain ⟨z_1, hz_1, h⟩ := bind_s h
    refine RunAt.cut (some 11) (.iaddrS 1) [] none [.d (.sl (List.map D.str t7)), .d (.int .i64 t9)] (.elt (.str z_1) 0) [] (by kernel_rfl) (by kernel_rfl) (by kernel_rfl) (cut_at hz_1 (fun _ => rfl)) ?_
    refine RunAt.chunk 2 [⟨.d (.str z_1), []⟩, ⟨.d (.str z_1), []⟩] (by kernel_rfl) ?_
    refine RunAt.done (by kernel_rfl) ?_
    refine kS_nrm ?_
    refine Runs.ops ?_
    refine RunAt.chunk 3 [⟨.ptr [3] 0 1, []⟩, ⟨.ref [901, 3] v_901_3 0 (List.map (D.int .u8) r3.Body).length 1, []⟩, ⟨.d (.str z_1), []⟩] (by kernel_rfl) ?_
    obtain ⟨r_1, hr_1, h⟩ := bind_s h
    have hc_1 := index_Name_L z_1 r_1 hr_1
    refine RunAt.cut (some 16) (.callf 18) [[18]] (some []) [.d (.str z_1)] (.d (.sl (List.map (D.int .u8) r_1))) [] (by kernel_rfl) (by kernel_rfl) (by kernel_rfl) (cut_call (call_of (ws := []) (us := []) (by kernel_rfl) (by kernel_rfl) hc_1 (by kernel_rfl) (by kernel_rfl))) ?_
    obtain ⟨z_2, hz_2, h⟩ := bind_s h
    refine RunAt.cut (some 17) (.append 1 1 false) [[18]] (some [[1, 3], [17], [19], [901, 3]]) [.ref [901, 3] v_901_3 0 (List.map (D.int .u8) r3.Body).length 1, .d (.sl (List.map (D.int .u8) r_1))] (.ref [901, 3] (v_901_3 + 1) 0 (List.map (D.int .u8) z_2).length 1) [([901, 3], some (.arr (List.map (D.int .u8) z_2) (v_901_3 + 1) false))] (by kernel_rfl) (by kernel_rfl) (by kernel_rfl) (cut_appR (e := (D.int .u8)) (l := r3.Body) (fz := false) (ws := []) (ap_data _) (fun _ => rfl) hz_2 (by kernel_rfl) (by kernel_rfl) rfl) ?_
    refine RunAt.chunk 1 [⟨.ref [18] 0 0 (List.map (D.int .u8) ([0] : List Int)).length 1, [([18], some (.arr (List.map (D.int .u8) ([0] : List Int)) 0 false))]⟩] (by kernel_rfl) ?_
    obtain ⟨z_3, hz_3, h⟩ := bind_s h
    refine RunAt.cut (some 19) (.append 1 1 false) [] none [.ref [901, 3] (v_901_3 + 1) 0 (List.map (D.int .u8) z_2).length 1, .ref [18] 0 0 (List.map (D.int .u8) ([0] : List Int)).length 1] (.ref [901, 3] ((v_901_3 + 1) + 1) 0 (List.map (D.int .u8) z_3).length 1) [([18], some (.arr (List.map (D.int .u8) ([0] : List Int)) 0 true)), ([901, 3], some (.arr (List.map (D.int .u8) z_3) ((v_901_3 + 1) + 1) false))] (by kernel_rfl) (by kernel_rfl) (by kernel_rfl) (cut_appR (e := (D.int .u8)) (l := z_2) (fz := false) (ws := [([18], some (.arr (List.map (D.int .u8) ([0] : List Int)) 0 true))]) (ap_ref (e := (D.int .u8)) (l := ([0] : List Int)) (fz := false) (by kernel_rfl) (by kernel_rfl) rfl) (fun _ => rfl) hz_3 (by kernel_rfl) (by kernel_rfl) rfl) ?_
    refine RunAt.chunk 2 [⟨.ptr [3] 0 1, []⟩, ⟨.tup [], [([3], some (.cells [.d (.int .u8 r3.Kind), .ref [901, 3] ((v_901_3 + 1) + 1) 0 (List.map (D.int .u8) z_3).length 1] 0))]⟩] (by kernel_rfl) ?_
    refine RunAt.done (by kernel_rfl) ?_
    refine kB_nrm ?_
    refine kS_nrm ?_
    refine Runs.ops ?_
    refine RunAt.chunk 2 [⟨.d (.int .i64 (IntKind.wrap .i64 (t9 + 1))), []⟩, ⟨.d (.int .i64 (IntKind.wrap .i64 (t9 + 1))), []⟩] (by kernel_rfl) ?_
    refine RunAt.done (by kernel_rfl) ?_
    obtain rfl := Option.some.inj h
    exact ⟨rfl, ((v_901_3 + 1) + 1), (Canon.nil (by kernel_rfl))⟩
  | false =>
    replace h := ite_f hb_1 h
    refine Runs.cond_f (by kernel_rfl) ?_
    refine Runs.exit ?_
    refine kS_exit ?_
    obtain rfl := Option.some.inj h
    exact ⟨nofun, rfl, v_901_3, (Canon.nil (by kernel_rfl))⟩
theorem pubs_Externals_ok (l_ : (List (List UInt8))) (r : Record) (h : pubs_Externals l_ = some r) : Runs L F54.body ⟨tmOf [.d (.sl (List.map D.str l_))] 0, updW (fun _ => none) []⟩ (pubs_Externals_Q l_ r) := by
  unfold pubs_Externals at h
  refine Runs.seq ?_
  refine Runs.ops ?_
  refine RunAt.chunk 1 [⟨.ptr [2] 0 0, [([2], some (.cells [.d (.int .u8 0), .nils] 0))]⟩] (by kernel_rfl) ?_
  refine RunAt.done (by kernel_rfl) ?_
  refine kS_nrm ?_
  refine Runs.seq ?_
  refine Runs.ops ?_
  refine RunAt.chunk 3 [⟨.mix [.d (.int .u8 140), .nils], []⟩, ⟨.ptr [3] 0 0, [([3], some (.cells [.d (.int .u8 0), .nils] 0))]⟩, ⟨.tup [], [([3], some (.cells [.d (.int .u8 140), .nils] 0))]⟩] (by kernel_rfl) ?_
  refine RunAt.done (by kernel_rfl) ?_
  refine kS_nrm ?_
  refine Runs.canon (pubs_Externals_h4 ({ Kind := 140, Body := ([] : List Int) } : Record) 0 l_ 0) (Canon.cons (ownB_nil (ver := 0) (v := 0) (cs := [.d (.int .u8 140), .nils]) (cs' := [.d (.int .u8 140), .ref [901, 3] 0 0 (List.map (D.int .u8) ([] : List Int)).length 1]) (D.int .u8) (by kernel_rfl) (by kernel_rfl) (by kernel_rfl) (by decide) (by kernel_rfl)) (Canon.nil (by kernel_rfl))) ?_
  refine Runs.seq ?_
  refine Runs.seq ?_
  refine Runs.ops ?_
  refine RunAt.chunk 1 [⟨.d (.sl (List.map D.str l_)), []⟩] (by kernel_rfl) ?_
  refine RunAt.cut (some 8) .lenL [] none [.d (.sl (List.map D.str l_))] (.d (.int .i64 (l_.length : Int))) [] (by kernel_rfl) (by kernel_rfl) (by kernel_rfl) (cut_len _) ?_
  refine RunAt.chunk 1 [⟨.d (.int .i64 0), []⟩] (by kernel_rfl) ?_
  refine RunAt.done (by kernel_rfl) ?_
  refine kS_nrm ?_
  refine Runs.block ?_
  obtain ⟨e_1, he_1, h⟩ := bind_s h
  refine Runs.loop (fun x : (Record × Int) => pubs_Externals_l8 x.1 0 l_ (l_.length : Int) x.2) (fun (x : (Record × Int)) (g : Nat) => pubs_Externals_h8 x.1 0 l_ (l_.length : Int) x.2 g) (pubs_Externals_P8 l_ 0 l_ (l_.length : Int)) (fun x g r hr => pubs_Externals_l8_ok l_ x.1 0 l_ (l_.length : Int) x.2 g r hr) 0 he_1 (Canon.nil (by kernel_rfl)) ?_
  rintro ⟨o, s⟩ hp
  obtain ⟨ho, g_1, hk_1⟩ := hp
  have ho' : o = .exit 0 := ho
  subst ho'
  refine kB_hit ?_
  refine kS_nrm ?_
  refine Runs.canon _ hk_1 ?_
  refine Runs.seq ?_
  refine Runs.ops ?_
  refine RunAt.chunk 2 [⟨.mix [.d (.int .u8 e_1.Kind), .ref [901, 3] g_1 0 (List.map (D.int .u8) e_1.Body).length 1], []⟩, ⟨.tup [], [([2], some (.cells [.d (.int .u8 e_1.Kind), .ref [901, 3] g_1 0 (List.map (D.int .u8) e_1.Body).length 1] 0))]⟩] (by kernel_rfl) ?_
  refine RunAt.done (by kernel_rfl) ?_
  refine kS_nrm ?_
  refine Runs.seq ?_
  refine Runs.gcons (frzB_ref (e := (D.int .u8)) (l := e_1.Body) (id := [2]) (id' := [901, 3]) (v := g_1) (n := 1) (fz := false) (ver := 0) (cs := [.d (.int .u8 e_1.Kind), .ref [901, 3] g_1 0 (List.map (D.int .u8) e_1.Body).length 1]) (cs' := [.d (.int .u8 e_1.Kind), .d (.sl (List.map (D.int .u8) e_1.Body))]) (by kernel_rfl) (by kernel_rfl) (by kernel_rfl) (by decide) (by kernel_rfl) rfl) ?_
  refine Runs.gnil ?_
  refine kS_nrm ?_
  refine Runs.ret ?_
  obtain rfl := Option.some.inj h
  exact ⟨Out.ret_ne, (by kernel_rfl)⟩
theorem pubs_Externals_L (l_ : (List (List UInt8))) (r : Record) (h : pubs_Externals l_ = some r) : L 54 [.d (.sl (List.map D.str l_))] = some (.d (Record.d r), [.d (.sl (List.map D.str l_))]) := by
  obtain ⟨p, ⟨hne, hf⟩, hr⟩ := pubs_Externals_ok l_ r h
  obtain ⟨k, hk⟩ := run_of (F := F54) (args := [.d (.sl (List.map D.str l_))]) (ap := [.d (.sl (List.map D.str l_))]) (bx0 := updW (fun _ => none) []) rfl rfl (by kernel_rfl) ⟨p, ⟨hne, hf⟩, hr⟩
  exact lim_run (k := k) rfl hk
def index_From_Q (b_ : (List Int)) (r : Source) (p : Out × St) : Prop := (∀ i, p.1 ≠ .exit i) ∧ finF F25 [.d (.sl (List.map (D.int .u8) b_))] p.2 = some (.ptr [.d (.sl (List.map (D.int .u8) r.b)), .d (.int .i64 r.e)], [.d (.sl (List.map (D.int .u8) b_))])
theorem index_From_ok (b_ : (List Int)) (r : Source) (h : index_From b_ = some r) : Runs L F25.body ⟨tmOf [.d (.sl (List.map (D.int .u8) b_))] 0, updW (fun _ => none) []⟩ (index_From_Q b_ r) := by
  unfold index_From at h
  refine Runs.seq ?_
  refine Runs.ops ?_
  refine RunAt.chunk 1 [⟨.nilp, []⟩] (by kernel_rfl) ?_
  refine RunAt.done (by kernel_rfl) ?_
  refine kS_nrm ?_
  refine Runs.seq ?_
  refine Runs.ops ?_
  refine RunAt.chunk 1 [⟨.d (.sl (List.map (D.int .u8) b_)), []⟩] (by kernel_rfl) ?_
  obtain ⟨z_1, hz_1, h⟩ := bind_s h
  refine RunAt.cut (some 4) (.append 1 1 false) [] none [.nils, .d (.sl (List.map (D.int .u8) b_))] (.ref [4] 0 0 (List.map (D.int .u8) z_1).length 1) [([4], some (.arr (List.map (D.int .u8) z_1) 0 false))] (by kernel_rfl) (by kernel_rfl) (by kernel_rfl) (cut_appN (e := (D.int .u8)) (ws := []) (ap_data _) (fun _ => rfl) hz_1 (by kernel_rfl)) ?_
  refine RunAt.chunk 3 [⟨.mix [.ref [4] 0 0 (List.map (D.int .u8) z_1).length 1, .d (.int .i64 0)], []⟩, ⟨.ptr [6] 0 0, [([6], some (.cells [.ref [4] 0 0 (List.map (D.int .u8) z_1).length 1, .d (.int .i64 0)] 0))]⟩, ⟨.ptr [6] 0 0, []⟩] (by kernel_rfl) ?_
  refine RunAt.done (by kernel_rfl) ?_
  refine kS_nrm ?_
  refine Runs.seq ?_
  refine Runs.gcons (frzB_ref (e := (D.int .u8)) (l := z_1) (id := [6]) (id' := [4]) (v := 0) (n := 1) (fz := false) (ver := 0) (cs := [.ref [4] 0 0 (List.map (D.int .u8) z_1).length 1, .d (.int .i64 0)]) (cs' := [.d (.sl (List.map (D.int .u8) z_1)), .d (.int .i64 0)]) (by kernel_rfl) (by kernel_rfl) (by kernel_rfl) (by decide) (by kernel_rfl) rfl) ?_
  refine Runs.gnil ?_
  refine kS_nrm ?_
  refine Runs.ret ?_
  obtain rfl := Option.some.inj h
  exact ⟨Out.ret_ne, (by kernel_rfl)⟩
theorem index_From_L (b_ : (List Int)) (r : Source) (h : index_From b_ = some r) : L 25 [.d (.sl (List.map (D.int .u8) b_))] = some (.ptr [.d (.sl (List.map (D.int .u8) r.b)), .d (.int .i64 r.e)], [.d (.sl (List.map (D.int .u8) b_))]) := by
  obtain ⟨p, ⟨hne, hf⟩, hr⟩ := index_From_ok b_ r h
  obtain ⟨k, hk⟩ := run_of (F := F25) (args := [.d (.sl (List.map (D.int .u8) b_))]) (ap := [.d (.sl (List.map (D.int .u8) b_))]) (bx0 := updW (fun _ => none) []) rfl rfl (by kernel_rfl) ⟨p, ⟨hne, hf⟩, hr⟩
  exact lim_run (k := k) rfl hk
def index_Source_Left_Q (s_ : Source) (r : Int) (p : Out × St) : Prop := (∀ i, p.1 ≠ .exit i) ∧ finF F29 [.ptr [0] 0 0] p.2 = some (.d (.int .i64 r), [.ptr [.d (.sl (List.map (D.int .u8) s_.b)), .d (.int .i64 s_.e)]])
theorem index_Source_Left_ok (s_ : Source) (r : Int) (h : index_Source_Left s_ = some r) : Runs L F29.body ⟨tmOf [.ptr [0] 0 0] 0, updW (fun _ => none) [([0], some (.cells [.d (.sl (List.map (D.int .u8) s_.b)), .d (.int .i64 s_.e)] 0))]⟩ (index_Source_Left_Q s_ r) := by
  unfold index_Source_Left at h
  refine Runs.seq ?_
  refine Runs.ops ?_
  refine RunAt.chunk 1 [⟨.d (.int .i64 0), []⟩] (by kernel_rfl) ?_
  refine RunAt.done (by kernel_rfl) ?_
  refine kS_nrm ?_
  refine Runs.seq ?_
  refine Runs.seq ?_
  refine Runs.ops ?_
  refine RunAt.chunk 2 [⟨.ptr [0] 0 0, []⟩, ⟨.d (.bool false), []⟩] (by kernel_rfl) ?_
  refine RunAt.done (by kernel_rfl) ?_
  refine kS_nrm ?_
  refine Runs.cond_f (by kernel_rfl) ?_
  refine Runs.skip ?_
  refine kS_nrm ?_
  refine Runs.seq ?_
  refine Runs.ops ?_
  refine RunAt.chunk 4 [⟨.ptr [0] 0 0, []⟩, ⟨.ptr [0] 0 0, []⟩, ⟨.ptr [0] 0 0, []⟩, ⟨.d (.sl (List.map (D.int .u8) s_.b)), []⟩] (by kernel_rfl) ?_
  refine RunAt.cut (some 9) .lenL [] none [.d (.sl (List.map (D.int .u8) s_.b))] (.d (.int .i64 (s_.b.length : Int))) [] (by kernel_rfl) (by kernel_rfl) (by kernel_rfl) (cut_len _) ?_
  refine RunAt.chunk 1 [⟨.d (.int .i64 (s_.b.length : Int)), []⟩] (by kernel_rfl) ?_
  refine RunAt.done (by kernel_rfl) ?_
  refine kS_nrm ?_
  refine Runs.ret ?_
  obtain rfl := Option.some.inj h
  exact ⟨Out.ret_ne, (by kernel_rfl)⟩
theorem index_Source_Left_L (s_ : Source) (r : Int) (h : index_Source_Left s_ = some r) : L 29 [.ptr [.d (.sl (List.map (D.int .u8) s_.b)), .d (.int .i64 s_.e)]] = some (.d (.int .i64 r), [.ptr [.d (.sl (List.map (D.int .u8) s_.b)), .d (.int .i64 s_.e)]]) := by
  obtain ⟨p, ⟨hne, hf⟩, hr⟩ := index_Source_Left_ok s_ r h
  obtain ⟨k, hk⟩ := run_of (F := F29) (args := [.ptr [.d (.sl (List.map (D.int .u8) s_.b)), .d (.int .i64 s_.e)]]) (ap := [.ptr [0] 0 0]) (bx0 := updW (fun _ => none) [([0], some (.cells [.d (.sl (List.map (D.int .u8) s_.b)), .d (.int .i64 s_.e)] 0))]) rfl rfl (by kernel_rfl) ⟨p, ⟨hne, hf⟩, hr⟩
  exact lim_run (k := k) rfl hk
def index_Source_Wrong_Q (s_ : Source) (e_ : Int) (r : Source) (p : Out × St) : Prop := (∀ i, p.1 ≠ .exit i) ∧ finF F27 [.ptr [0] 0 0, .d (.int .i64 e_)] p.2 = some (.tup [], [.ptr [.d (.sl (List.map (D.int .u8) r.b)), .d (.int .i64 r.e)], .d (.int .i64 e_)])
theorem index_Source_Wrong_ok (s_ : Source) (e_ : Int) (r : Source) (h : index_Source_Wrong s_ e_ = some r) : Runs L F27.body ⟨tmOf [.ptr [0] 0 0, .d (.int .i64 e_)] 0, updW (fun _ => none) [([0], some (.cells [.d (.sl (List.map (D.int .u8) s_.b)), .d (.int .i64 s_.e)] 0))]⟩ (index_Source_Wrong_Q s_ e_ r) := by
  unfold index_Source_Wrong at h
  refine Runs.seq ?_
  refine Runs.seq ?_
  refine Runs.ops ?_
  refine RunAt.chunk 10 [⟨.ptr [0] 0 0, []⟩, ⟨.d (.bool true), []⟩, ⟨.d (.bool true), []⟩, ⟨.ptr [0] 0 0, []⟩, ⟨.ptr [0] 0 0, []⟩, ⟨.ptr [0] 0 1, []⟩, ⟨.d (.int .i64 s_.e), []⟩, ⟨.d (.bool (s_.e == 0)), []⟩, ⟨.d (.bool (s_.e == 0)), []⟩, ⟨.d (.bool (s_.e == 0)), []⟩] (by kernel_rfl) ?_
  cases hb_1 : ((s_.e == 0) : Bool) with
  | true =>
    replace h := ite_t hb_1 h
    refine RunAt.chunk 3 [⟨.d (.int .i64 e_), []⟩, ⟨.d (.bool (e_ != 0)), []⟩, ⟨.d (.bool (e_ != 0)), []⟩] (by kernel_rfl) ?_
    refine RunAt.done (by kernel_rfl) ?_
    refine kS_nrm ?_
    cases hb_2 : ((e_ != 0) : Bool) with
    | true =>
      replace h := ite_t hb_2 h
      refine Runs.cond_t (by kernel_rfl) ?_
      refine Runs.ops ?_
      refine RunAt.chunk 9 [⟨.ptr [0] 0 0, []⟩, ⟨.ptr [0] 0 0, []⟩, ⟨.d (.int .i64 e_), []⟩, ⟨.ptr [0] 0 0, []⟩, ⟨.ptr [0] 0 1, []⟩, ⟨.tup [], [([0], some (.cells [.d (.sl (List.map (D.int .u8) s_.b)), .d (.int .i64 e_)] 0))]⟩, ⟨.ptr [0] 0 0, []⟩, ⟨.ptr [0] 0 0, []⟩, ⟨.tup [], [([0], some (.cells [.nils, .d (.int .i64 e_)] 0))]⟩] (by kernel_rfl) ?_
      refine RunAt.done (by kernel_rfl) ?_
      refine kS_nrm ?_
      refine Runs.gcons (frzB_nil (ver := 0) (cs := [.nils, .d (.int .i64 e_)]) (cs' := [.d (.sl (List.map (D.int .u8) ([] : List Int))), .d (.int .i64 e_)]) (D.int .u8) (by kernel_rfl) (by kernel_rfl) (by kernel_rfl)) ?_
      refine Runs.gnil ?_
      obtain rfl := Option.some.inj h
      exact ⟨Out.nrm_ne, (by kernel_rfl)⟩
    | false =>
      replace h := ite_f hb_2 h
      refine Runs.cond_f (by kernel_rfl) ?_
      refine Runs.skip ?_
      refine kS_nrm ?_
      refine Runs.gsame (by kernel_rfl) ?_
      refine Runs.gnil ?_
      obtain rfl := Option.some.inj h
      exact ⟨Out.nrm_ne, (by kernel_rfl)⟩
  | false =>
    replace h := ite_f hb_1 h
    refine RunAt.chunk 3 [⟨.tup [], []⟩, ⟨.tup [], []⟩, ⟨.d (.bool false), []⟩] (by kernel_rfl) ?_
    refine RunAt.done (by kernel_rfl) ?_
    refine kS_nrm ?_
    refine Runs.cond_f (by kernel_rfl) ?_
    refine Runs.skip ?_
    refine kS_nrm ?_
    refine Runs.gsame (by kernel_rfl) ?_
    refine Runs.gnil ?_
    obtain rfl := Option.some.inj h
    exact ⟨Out.nrm_ne, (by kernel_rfl)⟩
theorem index_Source_Wrong_L (s_ : Source) (e_ : Int) (r : Source) (h : index_Source_Wrong s_ e_ = some r) : L 27 [.ptr [.d (.sl (List.map (D.int .u8) s_.b)), .d (.int .i64 s_.e)], .d (.int .i64 e_)] = some (.tup [], [.ptr [.d (.sl (List.map (D.int .u8) r.b)), .d (.int .i64 r.e)], .d (.int .i64 e_)]) := by
  obtain ⟨p, ⟨hne, hf⟩, hr⟩ := index_Source_Wrong_ok s_ e_ r h
  obtain ⟨k, hk⟩ := run_of (F := F27) (args := [.ptr [.d (.sl (List.map (D.int .u8) s_.b)), .d (.int .i64 s_.e)], .d (.int .i64 e_)]) (ap := [.ptr [0] 0 0, .d (.int .i64 e_)]) (bx0 := updW (fun _ => none) [([0], some (.cells [.d (.sl (List.map (D.int .u8) s_.b)), .d (.int .i64 s_.e)] 0))]) rfl rfl (by kernel_rfl) ⟨p, ⟨hne, hf⟩, hr⟩
  exact lim_run (k := k) rfl hk
def index_Source_Take_Q (s_ : Source) (n_ : Int) (r : ((List Int) × Source)) (p : Out × St) : Prop := (∀ i, p.1 ≠ .exit i) ∧ finF F26 [.ptr [0] 0 0, .d (.int .i64 n_)] p.2 = some (.d (.sl (List.map (D.int .u8) r.1)), [.ptr [.d (.sl (List.map (D.int .u8) r.2.b)), .d (.int .i64 r.2.e)], .d (.int .i64 n_)])
theorem index_Source_Take_ok (s_ : Source) (n_ : Int) (r : ((List Int) × Source)) (h : index_Source_Take s_ n_ = some r) : Runs L F26.body ⟨tmOf [.ptr [0] 0 0, .d (.int .i64 n_)] 0, updW (fun _ => none) [([0], some (.cells [.d (.sl (List.map (D.int .u8) s_.b)), .d (.int .i64 s_.e)] 0))]⟩ (index_Source_Take_Q s_ n_ r) := by
  unfold index_Source_Take at h
  refine Runs.seq ?_
  refine Runs.ops ?_
  refine RunAt.chunk 1 [⟨.nils, []⟩] (by kernel_rfl) ?_
  refine RunAt.done (by kernel_rfl) ?_
  refine kS_nrm ?_
  refine Runs.seq ?_
  refine Runs.seq ?_
  refine Runs.ops ?_
  refine RunAt.chunk 2 [⟨.ptr [0] 0 0, []⟩, ⟨.d (.bool false), []⟩] (by kernel_rfl) ?_
  refine RunAt.done (by kernel_rfl) ?_
  refine kS_nrm ?_
  refine Runs.cond_f (by kernel_rfl) ?_
  refine Runs.skip ?_
  refine kS_nrm ?_
  refine Runs.seq ?_
  refine Runs.seq ?_
  refine Runs.ops ?_
  refine RunAt.chunk 3 [⟨.d (.int .i64 n_), []⟩, ⟨.d (.bool (decide (n_ < 0))), []⟩, ⟨.d (.bool (decide (n_ < 0))), []⟩] (by kernel_rfl) ?_
  cases hb_1 : ((decide (n_ < 0)) : Bool) with
  | true =>
    replace h := ite_t hb_1 h
    refine RunAt.chunk 8 [⟨.tup [], []⟩, ⟨.tup [], []⟩, ⟨.tup [], []⟩, ⟨.tup [], []⟩, ⟨.tup [], []⟩, ⟨.tup [], []⟩, ⟨.tup [], []⟩, ⟨.d (.bool true), []⟩] (by kernel_rfl) ?_
    refine RunAt.done (by kernel_rfl) ?_
    refine kS_nrm ?_
    refine Runs.cond_t (by kernel_rfl) ?_
    refine Runs.seq ?_
    refine Runs.ops ?_
    refine RunAt.chunk 1 [⟨.ptr [0] 0 0, []⟩] (by kernel_rfl) ?_
    obtain ⟨r_1, hr_1, h⟩ := bind_s h
    have hc_1 := index_Source_Wrong_L s_ 2 r_1 hr_1
    refine RunAt.cut (some 20) (.callf 27) [] none [.ptr [0] 0 0, .d (.int .i64 2)] (.tup []) [([0], some (.cells [.d (.sl (List.map (D.int .u8) r_1.b)), .d (.int .i64 r_1.e)] 0))] (by kernel_rfl) (by kernel_rfl) (by kernel_rfl) (cut_call (call_of (ws := []) (us := [([0], some (.cells [.d (.sl (List.map (D.int .u8) r_1.b)), .d (.int .i64 r_1.e)] 0))]) (by kernel_rfl) (by kernel_rfl) hc_1 (by kernel_rfl) (by kernel_rfl))) ?_
    refine RunAt.done (by kernel_rfl) ?_
    refine kS_nrm ?_
    refine Runs.seq ?_
    refine Runs.ops ?_
    refine RunAt.chunk 1 [⟨.nils, []⟩] (by kernel_rfl) ?_
    refine RunAt.done (by kernel_rfl) ?_
    refine kS_nrm ?_
    refine Runs.seq ?_
    refine Runs.gcons (frz_nil (D.int .u8) (by kernel_rfl)) ?_
    refine Runs.gnil ?_
    refine kS_nrm ?_
    refine Runs.ret ?_
    refine kS_ret ?_
    obtain rfl := Option.some.inj h
    exact ⟨Out.ret_ne, (by kernel_rfl)⟩
  | false =>
    replace h := ite_f hb_1 h
    refine RunAt.chunk 5 [⟨.d (.int .i64 n_), []⟩, ⟨.ptr [0] 0 0, []⟩, ⟨.ptr [0] 0 0, []⟩, ⟨.ptr [0] 0 0, []⟩, ⟨.d (.sl (List.map (D.int .u8) s_.b)), []⟩] (by kernel_rfl) ?_
    refine RunAt.cut (some 16) .lenL [] none [.d (.sl (List.map (D.int .u8) s_.b))] (.d (.int .i64 (s_.b.length : Int))) [] (by kernel_rfl) (by kernel_rfl) (by kernel_rfl) (cut_len _) ?_
    refine RunAt.chunk 2 [⟨.d (.bool (decide (n_ > (s_.b.length : Int)))), []⟩, ⟨.d (.bool (decide (n_ > (s_.b.length : Int)))), []⟩] (by kernel_rfl) ?_
    refine RunAt.done (by kernel_rfl) ?_
    refine kS_nrm ?_
    cases hb_2 : ((decide (n_ > (s_.b.length : Int))) : Bool) with
    | true =>
      replace h := ite_t hb_2 h
      refine Runs.cond_t (by kernel_rfl) ?_
      refine Runs.seq ?_
      refine Runs.ops ?_
      refine RunAt.chunk 1 [⟨.ptr [0] 0 0, []⟩] (by kernel_rfl) ?_
      obtain ⟨r_2, hr_2, h⟩ := bind_s h
      have hc_2 := index_Source_Wrong_L s_ 2 r_2 hr_2
      refine RunAt.cut (some 20) (.callf 27) [] none [.ptr [0] 0 0, .d (.int .i64 2)] (.tup []) [([0], some (.cells [.d (.sl (List.map (D.int .u8) r_2.b)), .d (.int .i64 r_2.e)] 0))] (by kernel_rfl) (by kernel_rfl) (by kernel_rfl) (cut_call (call_of (ws := []) (us := [([0], some (.cells [.d (.sl (List.map (D.int .u8) r_2.b)), .d (.int .i64 r_2.e)] 0))]) (by kernel_rfl) (by kernel_rfl) hc_2 (by kernel_rfl) (by kernel_rfl))) ?_
      refine RunAt.done (by kernel_rfl) ?_
      refine kS_nrm ?_
      refine Runs.seq ?_
      refine Runs.ops ?_
      refine RunAt.chunk 1 [⟨.nils, []⟩] (by kernel_rfl) ?_
      refine RunAt.done (by kernel_rfl) ?_
      refine kS_nrm ?_
      refine Runs.seq ?_
      refine Runs.gcons (frz_nil (D.int .u8) (by kernel_rfl)) ?_
      refine Runs.gnil ?_
      refine kS_nrm ?_
      refine Runs.ret ?_
      refine kS_ret ?_
      obtain rfl := Option.some.inj h
      exact ⟨Out.ret_ne, (by kernel_rfl)⟩
    | false =>
      replace h := ite_f hb_2 h
      refine Runs.cond_f (by kernel_rfl) ?_
      refine Runs.skip ?_
      refine kS_nrm ?_
      refine Runs.seq ?_
      refine Runs.ops ?_
      refine RunAt.chunk 6 [⟨.ptr [0] 0 0, []⟩, ⟨.ptr [0] 0 0, []⟩, ⟨.ptr [0] 0 0, []⟩, ⟨.d (.sl (List.map (D.int .u8) s_.b)), []⟩, ⟨.d (.int .i64 n_), []⟩, ⟨.d (.int .i64 n_), []⟩] (by kernel_rfl) ?_
      obtain ⟨z_1, hz_1, h⟩ := bind_s h
      refine RunAt.cut (some 27) (.subsl 1 false true true) [] none [.d (.sl (List.map (D.int .u8) s_.b)), .d (.int .i64 n_), .d (.int .i64 n_)] (.d (.sl (List.map (D.int .u8) z_1))) [] (by kernel_rfl) (by kernel_rfl) (by kernel_rfl) (cut_slFTT hz_1 (fun _ => rfl)) ?_
      refine RunAt.chunk 1 [⟨.d (.sl (List.map (D.int .u8) z_1)), []⟩] (by kernel_rfl) ?_
      refine RunAt.done (by kernel_rfl) ?_
      refine kS_nrm ?_
      refine Runs.seq ?_
      refine Runs.ops ?_
      refine RunAt.chunk 6 [⟨.ptr [0] 0 0, []⟩, ⟨.ptr [0] 0 0, []⟩, ⟨.ptr [0] 0 0, []⟩, ⟨.ptr [0] 0 0, []⟩, ⟨.d (.sl (List.map (D.int .u8) s_.b)), []⟩, ⟨.d (.int .i64 n_), []⟩] (by kernel_rfl) ?_
      obtain ⟨z_2, hz_2, h⟩ := bind_s h
      refine RunAt.cut (some 34) (.subsl 1 true false false) [] none [.d (.sl (List.map (D.int .u8) s_.b)), .d (.int .i64 n_)] (.d (.sl (List.map (D.int .u8) z_2))) [] (by kernel_rfl) (by kernel_rfl) (by kernel_rfl) (cut_slTF hz_2 (fun _ => rfl)) ?_
      refine RunAt.chunk 3 [⟨.ptr [0] 0 0, []⟩, ⟨.ptr [0] 0 0, []⟩, ⟨.tup [], [([0], some (.cells [.d (.sl (List.map (D.int .u8) z_2)), .d (.int .i64 s_.e)] 0))]⟩] (by kernel_rfl) ?_
      refine RunAt.done (by kernel_rfl) ?_
      refine kS_nrm ?_
      refine Runs.seq ?_
      refine Runs.ops ?_
      refine RunAt.chunk 2 [⟨.d (.sl (List.map (D.int .u8) z_1)), []⟩, ⟨.d (.sl (List.map (D.int .u8) z_1)), []⟩] (by kernel_rfl) ?_
      refine RunAt.done (by kernel_rfl) ?_
      refine kS_nrm ?_
      refine Runs.ret ?_
      obtain rfl := Option.some.inj h
      exact ⟨Out.ret_ne, (by kernel_rfl)⟩
theorem index_Source_Take_L (s_ : Source) (n_ : Int) (r : ((List Int) × Source)) (h : index_Source_Take s_ n_ = some r) : L 26 [.ptr [.d (.sl (List.map (D.int .u8) s_.b)), .d (.int .i64 s_.e)], .d (.int .i64 n_)] = some (.d (.sl (List.map (D.int .u8) r.1)), [.ptr [.d (.sl (List.map (D.int .u8) r.2.b)), .d (.int .i64 r.2.e)], .d (.int .i64 n_)]) := by
  obtain ⟨p, ⟨hne, hf⟩, hr⟩ := index_Source_Take_ok s_ n_ r h
  obtain ⟨k, hk⟩ := run_of (F := F26) (args := [.ptr [.d (.sl (List.map (D.int .u8) s_.b)), .d (.int .i64 s_.e)], .d (.int .i64 n_)]) (ap := [.ptr [0] 0 0, .d (.int .i64 n_)]) (bx0 := updW (fun _ => none) [([0], some (.cells [.d (.sl (List.map (D.int .u8) s_.b)), .d (.int .i64 s_.e)] 0))]) rfl rfl (by kernel_rfl) ⟨p, ⟨hne, hf⟩, hr⟩
  exact lim_run (k := k) rfl hk
def index_Source_Byte_Q (s_ : Source) (r : (Int × Source)) (p : Out × St) : Prop := (∀ i, p.1 ≠ .exit i) ∧ finF F35 [.ptr [0] 0 0] p.2 = some (.d (.int .u8 r.1), [.ptr [.d (.sl (List.map (D.int .u8) r.2.b)), .d (.int .i64 r.2.e)]])
theorem index_Source_Byte_ok (s_ : Source) (r : (Int × Source)) (h : index_Source_Byte s_ = some r) : Runs L F35.body ⟨tmOf [.ptr [0] 0 0] 0, updW (fun _ => none) [([0], some (.cells [.d (.sl (List.map (D.int .u8) s_.b)), .d (.int .i64 s_.e)] 0))]⟩ (index_Source_Byte_Q s_ r) := by
  unfold index_Source_Byte at h
  refine Runs.seq ?_
  refine Runs.ops ?_
  refine RunAt.chunk 1 [⟨.d (.int .u8 0), []⟩] (by kernel_rfl) ?_
  refine RunAt.done (by kernel_rfl) ?_
  refine kS_nrm ?_
  refine Runs.seq ?_
  refine Runs.seq ?_
  refine Runs.ops ?_
  refine RunAt.chunk 1 [⟨.ptr [0] 0 0, []⟩] (by kernel_rfl) ?_
  obtain ⟨r_1, hr_1, h⟩ := bind_s h
  have hc_1 := index_Source_Take_L s_ 1 r_1 hr_1
  refine RunAt.cut (some 5) (.callf 26) [] none [.ptr [0] 0 0, .d (.int .i64 1)] (.d (.sl (List.map (D.int .u8) r_1.1))) [([0], some (.cells [.d (.sl (List.map (D.int .u8) r_1.2.b)), .d (.int .i64 r_1.2.e)] 0))] (by kernel_rfl) (by kernel_rfl) (by kernel_rfl) (cut_call (call_of (ws := []) (us := [([0], some (.cells [.d (.sl (List.map (D.int .u8) r_1.2.b)), .d (.int .i64 r_1.2.e)] 0))]) (by kernel_rfl) (by kernel_rfl) hc_1 (by kernel_rfl) (by kernel_rfl))) ?_
  refine RunAt.chunk 1 [⟨.d (.sl (List.map (D.int .u8) r_1.1)), []⟩] (by kernel_rfl) ?_
  refine RunAt.done (by kernel_rfl) ?_
  refine kS_nrm ?_
  refine Runs.seq ?_
  refine Runs.ops ?_
  refine RunAt.chunk 1 [⟨.d (.sl (List.map (D.int .u8) r_1.1)), []⟩] (by kernel_rfl) ?_
  refine RunAt.cut (some 7) .lenL [] none [.d (.sl (List.map (D.int .u8) r_1.1))] (.d (.int .i64 (r_1.1.length : Int))) [] (by kernel_rfl) (by kernel_rfl) (by kernel_rfl) (cut_len _) ?_
  refine RunAt.chunk 1 [⟨.d (.bool ((r_1.1.length : Int) == 1)), []⟩] (by kernel_rfl) ?_
  refine RunAt.done (by kernel_rfl) ?_
  refine kS_nrm ?_
  cases hb_1 : (((r_1.1.length : Int) == 1) : Bool) with
  | true =>
    replace h := ite_t hb_1 h
    refine Runs.cond_t (by kernel_rfl) ?_
    refine Runs.seq ?_
    refine Runs.ops ?_
    refine RunAt.chunk 1 [⟨.d (.sl (List.map (D.int .u8) r_1.1)), []⟩] (by kernel_rfl) ?_
    obtain ⟨z_1, hz_1, h⟩ := bind_s h
    refine RunAt.cut (some 10) (.iaddrS 1) [] none [.d (.sl (List.map (D.int .u8) r_1.1)), .d (.int .i64 0)] (.elt (.int .u8 z_1) 0) [] (by kernel_rfl) (by kernel_rfl) (by kernel_rfl) (cut_at hz_1 (fun _ => rfl)) ?_
    refine RunAt.chunk 2 [⟨.d (.int .u8 z_1), []⟩, ⟨.d (.int .u8 z_1), []⟩] (by kernel_rfl) ?_
    refine RunAt.done (by kernel_rfl) ?_
    refine kS_nrm ?_
    refine Runs.ret ?_
    refine kS_ret ?_
    obtain rfl := Option.some.inj h
    exact ⟨Out.ret_ne, (by kernel_rfl)⟩
  | false =>
    replace h := ite_f hb_1 h
    refine Runs.cond_f (by kernel_rfl) ?_
    refine Runs.skip ?_
    refine kS_nrm ?_
    refine Runs.seq ?_
    refine Runs.ops ?_
    refine RunAt.chunk 1 [⟨.d (.int .u8 0), []⟩] (by kernel_rfl) ?_
    refine RunAt.done (by kernel_rfl) ?_
    refine kS_nrm ?_
    refine Runs.ret ?_
    obtain rfl := Option.some.inj h
    exact ⟨Out.ret_ne, (by kernel_rfl)⟩
theorem index_Source_Byte_L (s_ : Source) (r : (Int × Source)) (h : index_Source_Byte s_ = some r) : L 35 [.ptr [.d (.sl (List.map (D.int .u8) s_.b)), .d (.int .i64 s_.e)]] = some (.d (.int .u8 r.1), [.ptr [.d (.sl (List.map (D.int .u8) r.2.b)), .d (.int .i64 r.2.e)]]) := by
  obtain ⟨p, ⟨hne, hf⟩, hr⟩ := index_Source_Byte_ok s_ r h
  obtain ⟨k, hk⟩ := run_of (F := F35) (args := [.ptr [.d (.sl (List.map (D.int .u8) s_.b)), .d (.int .i64 s_.e)]]) (ap := [.ptr [0] 0 0]) (bx0 := updW (fun _ => none) [([0], some (.cells [.d (.sl (List.map (D.int .u8) s_.b)), .d (.int .i64 s_.e)] 0))]) rfl rfl (by kernel_rfl) ⟨p, ⟨hne, hf⟩, hr⟩
  exact lim_run (k := k) rfl hk
def index_Source_Name_Q (s_ : Source) (r : ((List UInt8) × Source)) (p : Out × St) : Prop := (∀ i, p.1 ≠ .exit i) ∧ finF F32 [.ptr [0] 0 0] p.2 = some (.d (.str r.1), [.ptr [.d (.sl (List.map (D.int .u8) r.2.b)), .d (.int .i64 r.2.e)]])
theorem index_Source_Name_ok (s_ : Source) (r : ((List UInt8) × Source)) (h : index_Source_Name s_ = some r) : Runs L F32.body ⟨tmOf [.ptr [0] 0 0] 0, updW (fun _ => none) [([0], some (.cells [.d (.sl (List.map (D.int .u8) s_.b)), .d (.int .i64 s_.e)] 0))]⟩ (index_Source_Name_Q s_ r) := by
  unfold index_Source_Name at h
  refine Runs.seq ?_
  refine Runs.ops ?_
  refine RunAt.chunk 1 [⟨.d (.str ([] : List UInt8)), []⟩] (by kernel_rfl) ?_
  refine RunAt.done (by kernel_rfl) ?_
  refine kS_nrm ?_
  refine Runs.seq ?_
  refine Runs.ops ?_
  refine RunAt.chunk 2 [⟨.ptr [0] 0 0, []⟩, ⟨.ptr [0] 0 0, []⟩] (by kernel_rfl) ?_
  obtain ⟨r_1, hr_1, h⟩ := bind_s h
  have hc_1 := index_Source_Byte_L s_ r_1 hr_1
  refine RunAt.cut (some 5) (.callf 35) [] none [.ptr [0] 0 0] (.d (.int .u8 r_1.1)) [([0], some (.cells [.d (.sl (List.map (D.int .u8) r_1.2.b)), .d (.int .i64 r_1.2.e)] 0))] (by kernel_rfl) (by kernel_rfl) (by kernel_rfl) (cut_call (call_of (ws := []) (us := [([0], some (.cells [.d (.sl (List.map (D.int .u8) r_1.2.b)), .d (.int .i64 r_1.2.e)] 0))]) (by kernel_rfl) (by kernel_rfl) hc_1 (by kernel_rfl) (by kernel_rfl))) ?_
  refine RunAt.chunk 1 [⟨.d (.int .i64 (IntKind.wrap .i64 r_1.1)), []⟩] (by kernel_rfl) ?_
  obtain ⟨r_2, hr_2, h⟩ := bind_s h
  have hc_2 := index_Source_Take_L r_1.2 (IntKind.wrap .i64 r_1.1) r_2 hr_2
  refine RunAt.cut (some 7) (.callf 26) [] none [.ptr [0] 0 0, .d (.int .i64 (IntKind.wrap .i64 r_1.1))] (.d (.sl (List.map (D.int .u8) r_2.1))) [([0], some (.cells [.d (.sl (List.map (D.int .u8) r_2.2.b)), .d (.int .i64 r_2.2.e)] 0))] (by kernel_rfl) (by kernel_rfl) (by kernel_rfl) (cut_call (call_of (ws := []) (us := [([0], some (.cells [.d (.sl (List.map (D.int .u8) r_2.2.b)), .d (.int .i64 r_2.2.e)] 0))]) (by kernel_rfl) (by kernel_rfl) hc_2 (by kernel_rfl) (by kernel_rfl))) ?_
  refine RunAt.cut (some 8) .bytesStr [] none [.d (.sl (List.map (D.int .u8) r_2.1))] (.d (.str (b2s r_2.1))) [] (by kernel_rfl) (by kernel_rfl) (by kernel_rfl) (cut_bs _) ?_
  refine RunAt.chunk 1 [⟨.d (.str (b2s r_2.1)), []⟩] (by kernel_rfl) ?_
  refine RunAt.done (by kernel_rfl) ?_
  refine kS_nrm ?_
  refine Runs.ret ?_
  obtain rfl := Option.some.inj h
  exact ⟨Out.ret_ne, (by kernel_rfl)⟩
theorem index_Source_Name_L (s_ : Source) (r : ((List UInt8) × Source)) (h : index_Source_Name s_ = some r) : L 32 [.ptr [.d (.sl (List.map (D.int .u8) s_.b)), .d (.int .i64 s_.e)]] = some (.d (.str r.1), [.ptr [.d (.sl (List.map (D.int .u8) r.2.b)), .d (.int .i64 r.2.e)]]) := by
  obtain ⟨p, ⟨hne, hf⟩, hr⟩ := index_Source_Name_ok s_ r h
  obtain ⟨k, hk⟩ := run_of (F := F32) (args := [.ptr [.d (.sl (List.map (D.int .u8) s_.b)), .d (.int .i64 s_.e)]]) (ap := [.ptr [0] 0 0]) (bx0 := updW (fun _ => none) [([0], some (.cells [.d (.sl (List.map (D.int .u8) s_.b)), .d (.int .i64 s_.e)] 0))]) rfl rfl (by kernel_rfl) ⟨p, ⟨hne, hf⟩, hr⟩
  exact lim_run (k := k) rfl hk
def index_Source_Err_Q (s_ : Source) (r : Int) (p : Out × St) : Prop := (∀ i, p.1 ≠ .exit i) ∧ finF F28 [.ptr [0] 0 0] p.2 = some (.d (.int .i64 r), [.ptr [.d (.sl (List.map (D.int .u8) s_.b)), .d (.int .i64 s_.e)]])
theorem index_Source_Err_ok (s_ : Source) (r : Int) (h : index_Source_Err s_ = some r) : Runs L F28.body ⟨tmOf [.ptr [0] 0 0] 0, updW (fun _ => none) [([0], some (.cells [.d (.sl (List.map (D.int .u8) s_.b)), .d (.int .i64 s_.e)] 0))]⟩ (index_Source_Err_Q s_ r) := by
  unfold index_Source_Err at h
  refine Runs.seq ?_
  refine Runs.ops ?_
  refine RunAt.chunk 1 [⟨.d (.int .i64 0), []⟩] (by kernel_rfl) ?_
  refine RunAt.done (by kernel_rfl) ?_
  refine kS_nrm ?_
  refine Runs.seq ?_
  refine Runs.seq ?_
  refine Runs.ops ?_
  refine RunAt.chunk 2 [⟨.ptr [0] 0 0, []⟩, ⟨.d (.bool false), []⟩] (by kernel_rfl) ?_
  refine RunAt.done (by kernel_rfl) ?_
  refine kS_nrm ?_
  refine Runs.cond_f (by kernel_rfl) ?_
  refine Runs.skip ?_
  refine kS_nrm ?_
  refine Runs.seq ?_
  refine Runs.ops ?_
  refine RunAt.chunk 5 [⟨.ptr [0] 0 0, []⟩, ⟨.ptr [0] 0 0, []⟩, ⟨.ptr [0] 0 1, []⟩, ⟨.d (.int .i64 s_.e), []⟩, ⟨.d (.int .i64 s_.e), []⟩] (by kernel_rfl) ?_
  refine RunAt.done (by kernel_rfl) ?_
  refine kS_nrm ?_
  refine Runs.ret ?_
  obtain rfl := Option.some.inj h
  exact ⟨Out.ret_ne, (by kernel_rfl)⟩
theorem index_Source_Err_L (s_ : Source) (r : Int) (h : index_Source_Err s_ = some r) : L 28 [.ptr [.d (.sl (List.map (D.int .u8) s_.b)), .d (.int .i64 s_.e)]] = some (.d (.int .i64 r), [.ptr [.d (.sl (List.map (D.int .u8) s_.b)), .d (.int .i64 s_.e)]]) := by
  obtain ⟨p, ⟨hne, hf⟩, hr⟩ := index_Source_Err_ok s_ r h
  obtain ⟨k, hk⟩ := run_of (F := F28) (args := [.ptr [.d (.sl (List.map (D.int .u8) s_.b)), .d (.int .i64 s_.e)]]) (ap := [.ptr [0] 0 0]) (bx0 := updW (fun _ => none) [([0], some (.cells [.d (.sl (List.map (D.int .u8) s_.b)), .d (.int .i64 s_.e)] 0))]) rfl rfl (by kernel_rfl) ⟨p, ⟨hne, hf⟩, hr⟩
  exact lim_run (k := k) rfl hk
def index_Source_Index_Q (s_ : Source) (r : (Int × Source)) (p : Out × St) : Prop := (∀ i, p.1 ≠ .exit i) ∧ finF F31 [.ptr [0] 0 0] p.2 = some (.d (.int .i64 r.1), [.ptr [.d (.sl (List.map (D.int .u8) r.2.b)), .d (.int .i64 r.2.e)]])
theorem index_Source_Index_ok (s_ : Source) (r : (Int × Source)) (h : index_Source_Index s_ = some r) : Runs L F31.body ⟨tmOf [.ptr [0] 0 0] 0, updW (fun _ => none) [([0], some (.cells [.d (.sl (List.map (D.int .u8) s_.b)), .d (.int .i64 s_.e)] 0))]⟩ (index_Source_Index_Q s_ r) := by
  unfold index_Source_Index at h
  refine Runs.seq ?_
  refine Runs.ops ?_
  refine RunAt.chunk 1 [⟨.d (.int .i64 0), []⟩] (by kernel_rfl) ?_
  refine RunAt.done (by kernel_rfl) ?_
  refine kS_nrm ?_
  refine Runs.seq ?_
  refine Runs.ops ?_
  refine RunAt.chunk 1 [⟨.ptr [0] 0 0, []⟩] (by kernel_rfl) ?_
  obtain ⟨r_1, hr_1, h⟩ := bind_s h
  have hc_1 := index_Source_Byte_L s_ r_1 hr_1
  refine RunAt.cut (some 6) (.callf 35) [] none [.ptr [0] 0 0] (.d (.int .u8 r_1.1)) [([0], some (.cells [.d (.sl (List.map (D.int .u8) r_1.2.b)), .d (.int .i64 r_1.2.e)] 0))] (by kernel_rfl) (by kernel_rfl) (by kernel_rfl) (cut_call (call_of (ws := []) (us := [([0], some (.cells [.d (.sl (List.map (D.int .u8) r_1.2.b)), .d (.int .i64 r_1.2.e)] 0))]) (by kernel_rfl) (by kernel_rfl) hc_1 (by kernel_rfl) (by kernel_rfl))) ?_
  refine RunAt.chunk 2 [⟨.d (.int .i64 (IntKind.wrap .i64 r_1.1)), []⟩, ⟨.d (.int .i64 (IntKind.wrap .i64 r_1.1)), []⟩] (by kernel_rfl) ?_
  refine RunAt.done (by kernel_rfl) ?_
  refine kS_nrm ?_
  refine Runs.seq ?_
  refine Runs.seq ?_
  refine Runs.ops ?_
  refine RunAt.chunk 2 [⟨.d (.int .i64 (IntKind.wrap .i64 r_1.1)), []⟩, ⟨.d (.bool (decide ((IntKind.wrap .i64 r_1.1) < 128))), []⟩] (by kernel_rfl) ?_
  refine RunAt.done (by kernel_rfl) ?_
  refine kS_nrm ?_
  cases hb_1 : ((decide ((IntKind.wrap .i64 r_1.1) < 128)) : Bool) with
  | true =>
    replace h := ite_t hb_1 h
    refine Runs.cond_t (by kernel_rfl) ?_
    refine Runs.seq ?_
    refine Runs.ops ?_
    refine RunAt.chunk 2 [⟨.d (.int .i64 (IntKind.wrap .i64 r_1.1)), []⟩, ⟨.d (.int .i64 (IntKind.wrap .i64 r_1.1)), []⟩] (by kernel_rfl) ?_
    refine RunAt.done (by kernel_rfl) ?_
    refine kS_nrm ?_
    refine Runs.ret ?_
    refine kS_ret ?_
    obtain rfl := Option.some.inj h
    exact ⟨Out.ret_ne, (by kernel_rfl)⟩
  | false =>
    replace h := ite_f hb_1 h
    refine Runs.cond_f (by kernel_rfl) ?_
    refine Runs.skip ?_
    refine kS_nrm ?_
    refine Runs.seq ?_
    refine Runs.ops ?_
    refine RunAt.chunk 4 [⟨.d (.int .i64 (IntKind.wrap .i64 r_1.1)), []⟩, ⟨.d (.int .i64 (bitsOp .and .i64 (IntKind.wrap .i64 r_1.1) 127)), []⟩, ⟨.d (.int .i64 (shlI .i64 (bitsOp .and .i64 (IntKind.wrap .i64 r_1.1) 127) 8)), []⟩, ⟨.ptr [0] 0 0, []⟩] (by kernel_rfl) ?_
    obtain ⟨r_2, hr_2, h⟩ := bind_s h
    have hc_2 := index_Source_Byte_L r_1.2 r_2 hr_2
    refine RunAt.cut (some 15) (.callf 35) [] none [.ptr [0] 0 0] (.d (.int .u8 r_2.1)) [([0], some (.cells [.d (.sl (List.map (D.int .u8) r_2.2.b)), .d (.int .i64 r_2.2.e)] 0))] (by kernel_rfl) (by kernel_rfl) (by kernel_rfl) (cut_call (call_of (ws := []) (us := [([0], some (.cells [.d (.sl (List.map (D.int .u8) r_2.2.b)), .d (.int .i64 r_2.2.e)] 0))]) (by kernel_rfl) (by kernel_rfl) hc_2 (by kernel_rfl) (by kernel_rfl))) ?_
    refine RunAt.chunk 3 [⟨.d (.int .i64 (IntKind.wrap .i64 r_2.1)), []⟩, ⟨.d (.int .i64 (bitsOp .or .i64 (shlI .i64 (bitsOp .and .i64 (IntKind.wrap .i64 r_1.1) 127) 8) (IntKind.wrap .i64 r_2.1))), []⟩, ⟨.d (.int .i64 (bitsOp .or .i64 (shlI .i64 (bitsOp .and .i64 (IntKind.wrap .i64 r_1.1) 127) 8) (IntKind.wrap .i64 r_2.1))), []⟩] (by kernel_rfl) ?_
    refine RunAt.done (by kernel_rfl) ?_
    refine kS_nrm ?_
    refine Runs.seq ?_
    refine Runs.seq ?_
    refine Runs.ops ?_
    refine RunAt.chunk 1 [⟨.ptr [0] 0 0, []⟩] (by kernel_rfl) ?_
    obtain ⟨r_3, hr_3, h⟩ := bind_s h
    have hc_3 := index_Source_Err_L r_2.2 r_3 hr_3
    refine RunAt.cut (some 19) (.callf 28) [] none [.ptr [0] 0 0] (.d (.int .i64 r_3)) [([0], some (.cells [.d (.sl (List.map (D.int .u8) r_2.2.b)), .d (.int .i64 r_2.2.e)] 0))] (by kernel_rfl) (by kernel_rfl) (by kernel_rfl) (cut_call (call_of (ws := []) (us := [([0], some (.cells [.d (.sl (List.map (D.int .u8) r_2.2.b)), .d (.int .i64 r_2.2.e)] 0))]) (by kernel_rfl) (by kernel_rfl) hc_3 (by kernel_rfl) (by kernel_rfl))) ?_
    refine RunAt.chunk 1 [⟨.d (.bool (r_3 != 0)), []⟩] (by kernel_rfl) ?_
    refine RunAt.done (by kernel_rfl) ?_
    refine kS_nrm ?_
    cases hb_2 : ((r_3 != 0) : Bool) with
    | true =>
      replace h := ite_t hb_2 h
      refine Runs.cond_t (by kernel_rfl) ?_
      refine Runs.seq ?_
      refine Runs.ops ?_
      refine RunAt.chunk 1 [⟨.d (.int .i64 0), []⟩] (by kernel_rfl) ?_
      refine RunAt.done (by kernel_rfl) ?_
      refine kS_nrm ?_
      refine Runs.ret ?_
      refine kS_ret ?_
      obtain rfl := Option.some.inj h
      exact ⟨Out.ret_ne, (by kernel_rfl)⟩
    | false =>
      replace h := ite_f hb_2 h
      refine Runs.cond_f (by kernel_rfl) ?_
      refine Runs.skip ?_
      refine kS_nrm ?_
      refine Runs.seq ?_
      refine Runs.ops ?_
      refine RunAt.chunk 2 [⟨.d (.int .i64 (bitsOp .or .i64 (shlI .i64 (bitsOp .and .i64 (IntKind.wrap .i64 r_1.1) 127) 8) (IntKind.wrap .i64 r_2.1))), []⟩, ⟨.d (.int .i64 (bitsOp .or .i64 (shlI .i64 (bitsOp .and .i64 (IntKind.wrap .i64 r_1.1) 127) 8) (IntKind.wrap .i64 r_2.1))), []⟩] (by kernel_rfl) ?_
      refine RunAt.done (by kernel_rfl) ?_
      refine kS_nrm ?_
      refine Runs.ret ?_
      obtain rfl := Option.some.inj h
      exact ⟨Out.ret_ne, (by kernel_rfl)⟩
theorem index_Source_Index_L (s_ : Source) (r : (Int × Source)) (h : index_Source_Index s_ = some r) : L 31 [.ptr [.d (.sl (List.map (D.int .u8) s_.b)), .d (.int .i64 s_.e)]] = some (.d (.int .i64 r.1), [.ptr [.d (.sl (List.map (D.int .u8) r.2.b)), .d (.int .i64 r.2.e)]]) := by
  obtain ⟨p, ⟨hne, hf⟩, hr⟩ := index_Source_Index_ok s_ r h
  obtain ⟨k, hk⟩ := run_of (F := F31) (args := [.ptr [.d (.sl (List.map (D.int .u8) s_.b)), .d (.int .i64 s_.e)]]) (ap := [.ptr [0] 0 0]) (bx0 := updW (fun _ => none) [([0], some (.cells [.d (.sl (List.map (D.int .u8) s_.b)), .d (.int .i64 s_.e)] 0))]) rfl rfl (by kernel_rfl) ⟨p, ⟨hne, hf⟩, hr⟩
  exact lim_run (k := k) rfl hk
def pubs_Taken_h6 (b_8 : Source) (out5 : (List Ext)) (v_5 : Nat) : St := ⟨tab [(4, .ptr [8] 0 0), (5, .ref [5] v_5 0 (List.map Ext.d out5).length 3)], tabB [([5], some (.arr (List.map Ext.d out5) v_5 false)), ([8], some (.cells [.d (.sl (List.map (D.int .u8) b_8.b)), .d (.int .i64 b_8.e)] 0))]⟩
def pubs_Taken_h8 (b_8 : Source) (out5 : (List Ext)) (v_5 : Nat) : St := ⟨tab [(4, .ptr [8] 0 0), (5, .ref [5] v_5 0 (List.map Ext.d out5).length 3)], tabB [([5], some (.arr (List.map Ext.d out5) v_5 false)), ([8], some (.cells [.d (.sl (List.map (D.int .u8) b_8.b)), .d (.int .i64 b_8.e)] 0))]⟩
def pubs_Taken_h19 (b_8 : Source) (out5 : (List Ext)) (v_5 : Nat) : St := ⟨tab [(4, .ptr [8] 0 0), (5, .ref [5] v_5 0 (List.map Ext.d out5).length 3)], tabB [([5], some (.arr (List.map Ext.d out5) v_5 false)), ([8], some (.cells [.d (.sl (List.map (D.int .u8) b_8.b)), .d (.int .i64 b_8.e)] 0))]⟩
def pubs_Taken_Q (b_ : (List Int)) (r : ((List Ext) × Int)) (p : Out × St) : Prop := (∀ i, p.1 ≠ .exit i) ∧ finF F55 [.d (.sl (List.map (D.int .u8) b_))] p.2 = some (.tup [.d (.sl (List.map Ext.d r.1)), .d (.int .i64 r.2)], [.d (.sl (List.map (D.int .u8) b_))])
def pubs_Taken_P8 (b_ : (List Int))  (e : ((List Ext) × Source)) (p : Out × St) : Prop := p.1 = .exit 0 ∧ ∃ g : Nat, Canon [] [4, 5] [[5], [8]] p.2 (pubs_Taken_h19 e.2 e.1 g)
theorem pubs_Taken_l8_ok (b_ : (List Int)) (b_8 : Source) (out5 : (List Ext)) (v_5 : Nat) (r : (Lp (Source × (List Ext)) ((List Ext) × Source))) (h : pubs_Taken_l8 b_8 out5 = some r) : Runs L F55l8 (pubs_Taken_h8 b_8 out5 v_5) (LQ [] [4, 5] [[5], [8]] (fun (x : (Source × (List Ext))) (g : Nat) => pubs_Taken_h8 x.1 x.2 g) (pubs_Taken_P8 b_) r) := by
  unfold pubs_Taken_l8 at h
  refine Runs.seq ?_
  refine Runs.seq ?_
  refine Runs.ops ?_
  refine RunAt.chunk 1 [⟨.ptr [8] 0 0, []⟩] (by kernel_rfl) ?_
  obtain ⟨r_2, hr_2, h⟩ := bind_s h
  have hc_2 := index_Source_Left_L b_8 r_2 hr_2
  refine RunAt.cut (some 10) (.callf 29) [] none [.ptr [8] 0 0] (.d (.int .i64 r_2)) [([8], some (.cells [.d (.sl (List.map (D.int .u8) b_8.b)), .d (.int .i64 b_8.e)] 0))] (by kernel_rfl) (by kernel_rfl) (by kernel_rfl) (cut_call (call_of (ws := []) (us := [([8], some (.cells [.d (.sl (List.map (D.int .u8) b_8.b)), .d (.int .i64 b_8.e)] 0))]) (by kernel_rfl) (by kernel_rfl) hc_2 (by kernel_rfl) (by kernel_rfl))) ?_
  refine RunAt.chunk 1 [⟨.d (.bool (decide (r_2 > 0))), []⟩] (by kernel_rfl) ?_
  refine RunAt.done (by kernel_rfl) ?_
  refine kS_nrm ?_
  cases hb_1 : ((decide (r_2 > 0)) : Bool) with
  | true =>
    replace h := ite_t hb_1 h
    refine Runs.cond_t (by kernel_rfl) ?_
    refine Runs.skip ?_
    refine kS_nrm ?_
    refine Runs.block ?_
    refine Runs.seq ?_
    refine Runs.ops ?_
    refine RunAt.chunk 2 [⟨.ref [5] v_5 0 (List.map Ext.d out5).length 3, []⟩, ⟨.ptr [8] 0 0, []⟩] (by kernel_rfl) ?_
    obtain ⟨r_3, hr_3, h⟩ := bind_s h
    have hc_3 := index_Source_Name_L b_8 r_3 hr_3
    refine RunAt.cut (some 14) (.callf 32) [] none [.ptr [8] 0 0] (.d (.str r_3.1)) [([8], some (.cells [.d (.sl (List.map (D.int .u8) r_3.2.b)), .d (.int .i64 r_3.2.e)] 0))] (by kernel_rfl) (by kernel_rfl) (by kernel_rfl) (cut_call (call_of (ws := []) (us := [([8], some (.cells [.d (.sl (List.map (D.int .u8) r_3.2.b)), .d (.int .i64 r_3.2.e)] 0))]) (by kernel_rfl) (by kernel_rfl) hc_3 (by kernel_rfl) (by kernel_rfl))) ?_
    refine RunAt.chunk 2 [⟨.d (.agg [.str r_3.1, .int .i64 0, .int .u32 0]), []⟩, ⟨.ref [16] 0 0 (List.map Ext.d ([({ Name := r_3.1, Com := 0, Len := 0 } : Ext)] : List Ext)).length 3, [([16], some (.arr (List.map Ext.d ([({ Name := r_3.1, Com := 0, Len := 0 } : Ext)] : List Ext)) 0 false))]⟩] (by kernel_rfl) ?_
    obtain ⟨z_1, hz_1, h⟩ := bind_s h
    refine RunAt.cut (some 17) (.append 3 32 false) [] none [.ref [5] v_5 0 (List.map Ext.d out5).length 3, .ref [16] 0 0 (List.map Ext.d ([({ Name := r_3.1, Com := 0, Len := 0 } : Ext)] : List Ext)).length 3] (.ref [5] (v_5 + 1) 0 (List.map Ext.d z_1).length 3) [([16], some (.arr (List.map Ext.d ([({ Name := r_3.1, Com := 0, Len := 0 } : Ext)] : List Ext)) 0 true)), ([5], some (.arr (List.map Ext.d z_1) (v_5 + 1) false))] (by kernel_rfl) (by kernel_rfl) (by kernel_rfl) (cut_appR (e := Ext.d) (l := out5) (fz := false) (ws := [([16], some (.arr (List.map Ext.d ([({ Name := r_3.1, Com := 0, Len := 0 } : Ext)] : List Ext)) 0 true))]) (ap_ref (e := Ext.d) (l := ([({ Name := r_3.1, Com := 0, Len := 0 } : Ext)] : List Ext)) (fz := false) (by kernel_rfl) (by kernel_rfl) rfl) (fun _ => rfl) hz_1 (by kernel_rfl) (by kernel_rfl) rfl) ?_
    refine RunAt.chunk 1 [⟨.ref [5] (v_5 + 1) 0 (List.map Ext.d z_1).length 3, []⟩] (by kernel_rfl) ?_
    refine RunAt.done (by kernel_rfl) ?_
    refine kS_nrm ?_
    refine Runs.ops ?_
    refine RunAt.chunk 1 [⟨.ptr [8] 0 0, []⟩] (by kernel_rfl) ?_
    obtain ⟨r_4, hr_4, h⟩ := bind_s h
    have hc_4 := index_Source_Index_L r_3.2 r_4 hr_4
    refine RunAt.cut (some 19) (.callf 31) [] none [.ptr [8] 0 0] (.d (.int .i64 r_4.1)) [([8], some (.cells [.d (.sl (List.map (D.int .u8) r_4.2.b)), .d (.int .i64 r_4.2.e)] 0))] (by kernel_rfl) (by kernel_rfl) (by kernel_rfl) (cut_call (call_of (ws := []) (us := [([8], some (.cells [.d (.sl (List.map (D.int .u8) r_4.2.b)), .d (.int .i64 r_4.2.e)] 0))]) (by kernel_rfl) (by kernel_rfl) hc_4 (by kernel_rfl) (by kernel_rfl))) ?_
    refine RunAt.done (by kernel_rfl) ?_
    refine kB_nrm ?_
    obtain rfl := Option.some.inj h
    exact ⟨rfl, (v_5 + 1), (Canon.nil (by kernel_rfl))⟩
  | false =>
    replace h := ite_f hb_1 h
    refine Runs.cond_f (by kernel_rfl) ?_
    refine Runs.exit ?_
    refine kS_exit ?_
    obtain rfl := Option.some.inj h
    exact ⟨nofun, rfl, v_5, (Canon.nil (by kernel_rfl))⟩
theorem pubs_Taken_ok (b_ : (List Int)) (r : ((List Ext) × Int)) (h : pubs_Taken b_ = some r) : Runs L F55.body ⟨tmOf [.d (.sl (List.map (D.int .u8) b_))] 0, updW (fun _ => none) []⟩ (pubs_Taken_Q b_ r) := by
  unfold pubs_Taken at h
  refine Runs.seq ?_
  refine Runs.ops ?_
  refine RunAt.chunk 2 [⟨.nils, []⟩, ⟨.d (.int .i64 0), []⟩] (by kernel_rfl) ?_
  refine RunAt.done (by kernel_rfl) ?_
  refine kS_nrm ?_
  refine Runs.seq ?_
  refine Runs.ops ?_
  refine RunAt.chunk 1 [⟨.d (.sl (List.map (D.int .u8) b_)), []⟩] (by kernel_rfl) ?_
  obtain ⟨r_1, hr_1, h⟩ := bind_s h
  have hc_1 := index_From_L b_ r_1 hr_1
  refine RunAt.cut (some 8) (.callf 25) [] none [.d (.sl (List.map (D.int .u8) b_))] (.ptr [8] 0 0) [([8], some (.cells [.d (.sl (List.map (D.int .u8) r_1.b)), .d (.int .i64 r_1.e)] 0))] (by kernel_rfl) (by kernel_rfl) (by kernel_rfl) (cut_call (call_of (ws := []) (us := []) (by kernel_rfl) (by kernel_rfl) hc_1 (by kernel_rfl) (by kernel_rfl))) ?_
  refine RunAt.chunk 1 [⟨.ptr [8] 0 0, []⟩] (by kernel_rfl) ?_
  refine RunAt.done (by kernel_rfl) ?_
  refine kS_nrm ?_
  refine Runs.seq ?_
  refine Runs.ops ?_
  refine RunAt.chunk 1 [⟨.nils, []⟩] (by kernel_rfl) ?_
  refine RunAt.done (by kernel_rfl) ?_
  refine kS_nrm ?_
  refine Runs.canon (pubs_Taken_h6 r_1 ([] : List Ext) 0) (Canon.cons (own_nil Ext.d (v := 0) (by kernel_rfl) (by kernel_rfl)) (Canon.nil (by kernel_rfl))) ?_
  refine Runs.seq ?_
  refine Runs.block ?_
  obtain ⟨e_1, he_1, h⟩ := bind_s h
  refine Runs.loop (fun x : (Source × (List Ext)) => pubs_Taken_l8 x.1 x.2) (fun (x : (Source × (List Ext))) (g : Nat) => pubs_Taken_h8 x.1 x.2 g) (pubs_Taken_P8 b_) (fun x g r hr => pubs_Taken_l8_ok b_ x.1 x.2 g r hr) 0 he_1 (Canon.nil (by kernel_rfl)) ?_
  rintro ⟨o, s⟩ hp
  obtain ⟨ho, g_1, hk_1⟩ := hp
  have ho' : o = .exit 0 := ho
  subst ho'
  refine kB_hit ?_
  refine kS_nrm ?_
  refine Runs.canon _ hk_1 ?_
  refine Runs.seq ?_
  refine Runs.seq ?_
  refine Runs.ops ?_
  refine RunAt.chunk 1 [⟨.ptr [8] 0 0, []⟩] (by kernel_rfl) ?_
  obtain ⟨r_2, hr_2, h⟩ := bind_s h
  have hc_2 := index_Source_Err_L e_1.2 r_2 hr_2
  refine RunAt.cut (some 21) (.callf 28) [] none [.ptr [8] 0 0] (.d (.int .i64 r_2)) [([8], some (.cells [.d (.sl (List.map (D.int .u8) e_1.2.b)), .d (.int .i64 e_1.2.e)] 0))] (by kernel_rfl) (by kernel_rfl) (by kernel_rfl) (cut_call (call_of (ws := []) (us := [([8], some (.cells [.d (.sl (List.map (D.int .u8) e_1.2.b)), .d (.int .i64 e_1.2.e)] 0))]) (by kernel_rfl) (by kernel_rfl) hc_2 (by kernel_rfl) (by kernel_rfl))) ?_
  refine RunAt.chunk 1 [⟨.d (.int .i64 r_2), []⟩] (by kernel_rfl) ?_
  refine RunAt.done (by kernel_rfl) ?_
  refine kS_nrm ?_
  refine Runs.seq ?_
  refine Runs.ops ?_
  refine RunAt.chunk 2 [⟨.d (.int .i64 r_2), []⟩, ⟨.d (.bool (r_2 != 0)), []⟩] (by kernel_rfl) ?_
  refine RunAt.done (by kernel_rfl) ?_
  refine kS_nrm ?_
  cases hb_1 : ((r_2 != 0) : Bool) with
  | true =>
    replace h := ite_t hb_1 h
    refine Runs.cond_t (by kernel_rfl) ?_
    refine Runs.seq ?_
    refine Runs.ops ?_
    refine RunAt.chunk 3 [⟨.d (.int .i64 r_2), []⟩, ⟨.nils, []⟩, ⟨.d (.int .i64 r_2), []⟩] (by kernel_rfl) ?_
    refine RunAt.done (by kernel_rfl) ?_
    refine kS_nrm ?_
    refine Runs.seq ?_
    refine Runs.gcons (frz_nil Ext.d (by kernel_rfl)) ?_
    refine Runs.gnil ?_
    refine kS_nrm ?_
    refine Runs.ret ?_
    refine kS_ret ?_
    obtain rfl := Option.some.inj h
    exact ⟨Out.ret_ne, (by kernel_rfl)⟩
  | false =>
    replace h := ite_f hb_1 h
    refine Runs.cond_f (by kernel_rfl) ?_
    refine Runs.skip ?_
    refine kS_nrm ?_
    refine Runs.seq ?_
    refine Runs.ops ?_
    refine RunAt.chunk 3 [⟨.ref [5] g_1 0 (List.map Ext.d e_1.1).length 3, []⟩, ⟨.ref [5] g_1 0 (List.map Ext.d e_1.1).length 3, []⟩, ⟨.d (.int .i64 0), []⟩] (by kernel_rfl) ?_
    refine RunAt.done (by kernel_rfl) ?_
    refine kS_nrm ?_
    refine Runs.seq ?_
    refine Runs.gcons (frz_ref (e := Ext.d) (l := e_1.1) (id := [5]) (v := g_1) (n := 3) (fz := false) (by kernel_rfl) (by kernel_rfl) rfl) ?_
    refine Runs.gnil ?_
    refine kS_nrm ?_
    refine Runs.ret ?_
    obtain rfl := Option.some.inj h
    exact ⟨Out.ret_ne, (by kernel_rfl)⟩
theorem pubs_Taken_L (b_ : (List Int)) (r : ((List Ext) × Int)) (h : pubs_Taken b_ = some r) : L 55 [.d (.sl (List.map (D.int .u8) b_))] = some (.tup [.d (.sl (List.map Ext.d r.1)), .d (.int .i64 r.2)], [.d (.sl (List.map (D.int .u8) b_))]) := by
  obtain ⟨p, ⟨hne, hf⟩, hr⟩ := pubs_Taken_ok b_ r h
  obtain ⟨k, hk⟩ := run_of (F := F55) (args := [.d (.sl (List.map (D.int .u8) b_))]) (ap := [.d (.sl (List.map (D.int .u8) b_))]) (bx0 := updW (fun _ => none) []) rfl rfl (by kernel_rfl) ⟨p, ⟨hne, hf⟩, hr⟩
  exact lim_run (k := k) rfl hk
def index_Put_Q (n_ : Int) (r : (List Int)) (p : Out × St) : Prop := (∀ i, p.1 ≠ .exit i) ∧ finF F16 [.d (.int .i64 n_)] p.2 = some (.arr false 1 (List.map (D.int .u8) r), [.d (.int .i64 n_)])
theorem index_Put_ok (n_ : Int) (r : (List Int)) (h : index_Put n_ = some r) : Runs L F16.body ⟨tmOf [.d (.int .i64 n_)] 0, updW (fun _ => none) []⟩ (index_Put_Q n_ r) := by
  unfold index_Put at h
  refine Runs.seq ?_
  refine Runs.ops ?_
  refine RunAt.chunk 1 [⟨.nils, []⟩] (by kernel_rfl) ?_
  refine RunAt.done (by kernel_rfl) ?_
  refine kS_nrm ?_
  refine Runs.seq ?_
  refine Runs.block ?_
  refine Runs.seq ?_
  refine Runs.ops ?_
  refine RunAt.chunk 3 [⟨.d (.int .i64 n_), []⟩, ⟨.d (.bool (decide (n_ < 0))), []⟩, ⟨.d (.bool (decide (n_ < 0))), []⟩] (by kernel_rfl) ?_
  cases hb_1 : ((decide (n_ < 0)) : Bool) with
  | true =>
    replace h := ite_t hb_1 h
    refine RunAt.chunk 4 [⟨.tup [], []⟩, ⟨.tup [], []⟩, ⟨.d (.bool true), []⟩, ⟨.d (.bool true), []⟩] (by kernel_rfl) ?_
    refine RunAt.done (by kernel_rfl) ?_
    refine kS_nrm ?_
    refine Runs.cond_t (by kernel_rfl) ?_
    refine Runs.seq ?_
    refine Runs.ops ?_
    refine RunAt.chunk 2 [⟨.ref [10] 0 0 (List.map (D.int .u8) ([0] : List Int)).length 1, [([10], some (.arr (List.map (D.int .u8) ([0] : List Int)) 0 false))]⟩, ⟨.ref [10] 0 0 (List.map (D.int .u8) ([0] : List Int)).length 1, []⟩] (by kernel_rfl) ?_
    refine RunAt.done (by kernel_rfl) ?_
    refine kS_nrm ?_
    refine Runs.ret ?_
    refine kB_ret ?_
    refine kS_ret ?_
    obtain rfl := Option.some.inj h
    exact ⟨Out.ret_ne, (fin_of (rs := [.ref [10] 0 0 (List.map (D.int .u8) ([0] : List Int)).length 1]) (by kernel_rfl) (by kernel_rfl) (outs_own (id := [10]) (v := 0) (fz := false) (es := List.map (D.int .u8) ([0] : List Int)) (by kernel_rfl) (by decide) rfl outs_nil) (gives_cons (give_same (by kernel_rfl)) gives_nil))⟩
  | false =>
    replace h := ite_f hb_1 h
    refine RunAt.chunk 4 [⟨.d (.int .i64 n_), []⟩, ⟨.d (.bool (decide (n_ > 32767))), []⟩, ⟨.d (.bool (decide (n_ > 32767))), []⟩, ⟨.d (.bool (decide (n_ > 32767))), []⟩] (by kernel_rfl) ?_
    refine RunAt.done (by kernel_rfl) ?_
    refine kS_nrm ?_
    cases hb_2 : ((decide (n_ > 32767)) : Bool) with
    | true =>
      replace h := ite_t hb_2 h
      refine Runs.cond_t (by kernel_rfl) ?_
      refine Runs.seq ?_
      refine Runs.ops ?_
      refine RunAt.chunk 2 [⟨.ref [10] 0 0 (List.map (D.int .u8) ([0] : List Int)).length 1, [([10], some (.arr (List.map (D.int .u8) ([0] : List Int)) 0 false))]⟩, ⟨.ref [10] 0 0 (List.map (D.int .u8) ([0] : List Int)).length 1, []⟩] (by kernel_rfl) ?_
      refine RunAt.done (by kernel_rfl) ?_
      refine kS_nrm ?_
      refine Runs.ret ?_
      refine kB_ret ?_
      refine kS_ret ?_
      obtain rfl := Option.some.inj h
      exact ⟨Out.ret_ne, (fin_of (rs := [.ref [10] 0 0 (List.map (D.int .u8) ([0] : List Int)).length 1]) (by kernel_rfl) (by kernel_rfl) (outs_own (id := [10]) (v := 0) (fz := false) (es := List.map (D.int .u8) ([0] : List Int)) (by kernel_rfl) (by decide) rfl outs_nil) (gives_cons (give_same (by kernel_rfl)) gives_nil))⟩
    | false =>
      replace h := ite_f hb_2 h
      refine Runs.cond_f (by kernel_rfl) ?_
      refine Runs.seq ?_
      refine Runs.ops ?_
      refine RunAt.chunk 3 [⟨.d (.int .i64 n_), []⟩, ⟨.d (.bool (decide (n_ < 128))), []⟩, ⟨.d (.bool (decide (n_ < 128))), []⟩] (by kernel_rfl) ?_
      refine RunAt.done (by kernel_rfl) ?_
      refine kS_nrm ?_
      cases hb_3 : ((decide (n_ < 128)) : Bool) with
      | true =>
        replace h := ite_t hb_3 h
        refine Runs.cond_t (by kernel_rfl) ?_
        refine Runs.seq ?_
        refine Runs.ops ?_
        refine RunAt.chunk 4 [⟨.d (.int .i64 n_), []⟩, ⟨.d (.int .u8 (IntKind.wrap .u8 n_)), []⟩, ⟨.ref [16] 0 0 (List.map (D.int .u8) ([(IntKind.wrap .u8 n_)] : List Int)).length 1, [([16], some (.arr (List.map (D.int .u8) ([(IntKind.wrap .u8 n_)] : List Int)) 0 false))]⟩, ⟨.ref [16] 0 0 (List.map (D.int .u8) ([(IntKind.wrap .u8 n_)] : List Int)).length 1, []⟩] (by kernel_rfl) ?_
        refine RunAt.done (by kernel_rfl) ?_
        refine kS_nrm ?_
        refine Runs.ret ?_
        refine kB_ret ?_
        refine kS_ret ?_
        obtain rfl := Option.some.inj h
        exact ⟨Out.ret_ne, (fin_of (rs := [.ref [16] 0 0 (List.map (D.int .u8) ([(IntKind.wrap .u8 n_)] : List Int)).length 1]) (by kernel_rfl) (by kernel_rfl) (outs_own (id := [16]) (v := 0) (fz := false) (es := List.map (D.int .u8) ([(IntKind.wrap .u8 n_)] : List Int)) (by kernel_rfl) (by decide) rfl outs_nil) (gives_cons (give_same (by kernel_rfl)) gives_nil))⟩
      | false =>
        replace h := ite_f hb_3 h
        refine Runs.cond_f (by kernel_rfl) ?_
        refine Runs.skip ?_
        refine kB_nrm ?_
        refine kS_nrm ?_
        refine Runs.seq ?_
        refine Runs.ops ?_
        refine RunAt.chunk 8 [⟨.d (.int .i64 n_), []⟩, ⟨.d (.int .i64 (shrI .i64 n_ 8)), []⟩, ⟨.d (.int .u8 (IntKind.wrap .u8 (shrI .i64 n_ 8))), []⟩, ⟨.d (.int .u8 (bitsOp .or .u8 (IntKind.wrap .u8 (shrI .i64 n_ 8)) 128)), []⟩, ⟨.d (.int .i64 n_), []⟩, ⟨.d (.int .u8 (IntKind.wrap .u8 n_)), []⟩, ⟨.ref [23] 0 0 (List.map (D.int .u8) ([(bitsOp .or .u8 (IntKind.wrap .u8 (shrI .i64 n_ 8)) 128), (IntKind.wrap .u8 n_)] : List Int)).length 1, [([23], some (.arr (List.map (D.int .u8) ([(bitsOp .or .u8 (IntKind.wrap .u8 (shrI .i64 n_ 8)) 128), (IntKind.wrap .u8 n_)] : List Int)) 0 false))]⟩, ⟨.ref [23] 0 0 (List.map (D.int .u8) ([(bitsOp .or .u8 (IntKind.wrap .u8 (shrI .i64 n_ 8)) 128), (IntKind.wrap .u8 n_)] : List Int)).length 1, []⟩] (by kernel_rfl) ?_
        refine RunAt.done (by kernel_rfl) ?_
        refine kS_nrm ?_
        refine Runs.ret ?_
        obtain rfl := Option.some.inj h
        exact ⟨Out.ret_ne, (fin_of (rs := [.ref [23] 0 0 (List.map (D.int .u8) ([(bitsOp .or .u8 (IntKind.wrap .u8 (shrI .i64 n_ 8)) 128), (IntKind.wrap .u8 n_)] : List Int)).length 1]) (by kernel_rfl) (by kernel_rfl) (outs_own (id := [23]) (v := 0) (fz := false) (es := List.map (D.int .u8) ([(bitsOp .or .u8 (IntKind.wrap .u8 (shrI .i64 n_ 8)) 128), (IntKind.wrap .u8 n_)] : List Int)) (by kernel_rfl) (by decide) rfl outs_nil) (gives_cons (give_same (by kernel_rfl)) gives_nil))⟩
theorem index_Put_L (n_ : Int) (r : (List Int)) (h : index_Put n_ = some r) : L 16 [.d (.int .i64 n_)] = some (.arr false 1 (List.map (D.int .u8) r), [.d (.int .i64 n_)]) := by
  obtain ⟨p, ⟨hne, hf⟩, hr⟩ := index_Put_ok n_ r h
  obtain ⟨k, hk⟩ := run_of (F := F16) (args := [.d (.int .i64 n_)]) (ap := [.d (.int .i64 n_)]) (bx0 := updW (fun _ => none) []) rfl rfl (by kernel_rfl) ⟨p, ⟨hne, hf⟩, hr⟩
  exact lim_run (k := k) rfl hk
def bits_Low_Q (w_ : Int) (r : Int) (p : Out × St) : Prop := (∀ i, p.1 ≠ .exit i) ∧ finF F67 [.d (.int .u16 w_)] p.2 = some (.d (.int .u8 r), [.d (.int .u16 w_)])
theorem bits_Low_ok (w_ : Int) (r : Int) (h : bits_Low w_ = some r) : Runs L F67.body ⟨tmOf [.d (.int .u16 w_)] 0, updW (fun _ => none) []⟩ (bits_Low_Q w_ r) := by
  unfold bits_Low at h
  refine Runs.seq ?_
  refine Runs.ops ?_
  refine RunAt.chunk 1 [⟨.d (.int .u8 0), []⟩] (by kernel_rfl) ?_
  refine RunAt.done (by kernel_rfl) ?_
  refine kS_nrm ?_
  refine Runs.seq ?_
  refine Runs.ops ?_
  refine RunAt.chunk 3 [⟨.d (.int .u16 w_), []⟩, ⟨.d (.int .u8 (IntKind.wrap .u8 w_)), []⟩, ⟨.d (.int .u8 (IntKind.wrap .u8 w_)), []⟩] (by kernel_rfl) ?_
  refine RunAt.done (by kernel_rfl) ?_
  refine kS_nrm ?_
  refine Runs.ret ?_
  obtain rfl := Option.some.inj h
  exact ⟨Out.ret_ne, (by kernel_rfl)⟩
theorem bits_Low_L (w_ : Int) (r : Int) (h : bits_Low w_ = some r) : L 67 [.d (.int .u16 w_)] = some (.d (.int .u8 r), [.d (.int .u16 w_)]) := by
  obtain ⟨p, ⟨hne, hf⟩, hr⟩ := bits_Low_ok w_ r h
  obtain ⟨k, hk⟩ := run_of (F := F67) (args := [.d (.int .u16 w_)]) (ap := [.d (.int .u16 w_)]) (bx0 := updW (fun _ => none) []) rfl rfl (by kernel_rfl) ⟨p, ⟨hne, hf⟩, hr⟩
  exact lim_run (k := k) rfl hk
def bits_High_Q (w_ : Int) (r : Int) (p : Out × St) : Prop := (∀ i, p.1 ≠ .exit i) ∧ finF F68 [.d (.int .u16 w_)] p.2 = some (.d (.int .u8 r), [.d (.int .u16 w_)])
theorem bits_High_ok (w_ : Int) (r : Int) (h : bits_High w_ = some r) : Runs L F68.body ⟨tmOf [.d (.int .u16 w_)] 0, updW (fun _ => none) []⟩ (bits_High_Q w_ r) := by
  unfold bits_High at h
  refine Runs.seq ?_
  refine Runs.ops ?_
  refine RunAt.chunk 1 [⟨.d (.int .u8 0), []⟩] (by kernel_rfl) ?_
  refine RunAt.done (by kernel_rfl) ?_
  refine kS_nrm ?_
  refine Runs.seq ?_
  refine Runs.ops ?_
  refine RunAt.chunk 4 [⟨.d (.int .u16 w_), []⟩, ⟨.d (.int .u16 (shrI .u16 w_ 8)), []⟩, ⟨.d (.int .u8 (IntKind.wrap .u8 (shrI .u16 w_ 8))), []⟩, ⟨.d (.int .u8 (IntKind.wrap .u8 (shrI .u16 w_ 8))), []⟩] (by kernel_rfl) ?_
  refine RunAt.done (by kernel_rfl) ?_
  refine kS_nrm ?_
  refine Runs.ret ?_
  obtain rfl := Option.some.inj h
  exact ⟨Out.ret_ne, (by kernel_rfl)⟩
theorem bits_High_L (w_ : Int) (r : Int) (h : bits_High w_ = some r) : L 68 [.d (.int .u16 w_)] = some (.d (.int .u8 r), [.d (.int .u16 w_)]) := by
  obtain ⟨p, ⟨hne, hf⟩, hr⟩ := bits_High_ok w_ r h
  obtain ⟨k, hk⟩ := run_of (F := F68) (args := [.d (.int .u16 w_)]) (ap := [.d (.int .u16 w_)]) (bx0 := updW (fun _ => none) []) rfl rfl (by kernel_rfl) ⟨p, ⟨hne, hf⟩, hr⟩
  exact lim_run (k := k) rfl hk
def index_Two_Q (w_ : Int) (r : (List Int)) (p : Out × St) : Prop := (∀ i, p.1 ≠ .exit i) ∧ finF F20 [.d (.int .u16 w_)] p.2 = some (.d (.sl (List.map (D.int .u8) r)), [.d (.int .u16 w_)])
theorem index_Two_ok (w_ : Int) (r : (List Int)) (h : index_Two w_ = some r) : Runs L F20.body ⟨tmOf [.d (.int .u16 w_)] 0, updW (fun _ => none) []⟩ (index_Two_Q w_ r) := by
  unfold index_Two at h
  refine Runs.seq ?_
  refine Runs.ops ?_
  refine RunAt.chunk 1 [⟨.nils, []⟩] (by kernel_rfl) ?_
  refine RunAt.done (by kernel_rfl) ?_
  refine kS_nrm ?_
  refine Runs.seq ?_
  refine Runs.ops ?_
  refine RunAt.chunk 1 [⟨.d (.int .u16 w_), []⟩] (by kernel_rfl) ?_
  obtain ⟨r_1, hr_1, h⟩ := bind_s h
  have hc_1 := bits_Low_L w_ r_1 hr_1
  refine RunAt.cut (some 4) (.callf 67) [] none [.d (.int .u16 w_)] (.d (.int .u8 r_1)) [] (by kernel_rfl) (by kernel_rfl) (by kernel_rfl) (cut_call (call_of (ws := []) (us := []) (by kernel_rfl) (by kernel_rfl) hc_1 (by kernel_rfl) (by kernel_rfl))) ?_
  refine RunAt.chunk 1 [⟨.d (.int .u16 w_), []⟩] (by kernel_rfl) ?_
  obtain ⟨r_2, hr_2, h⟩ := bind_s h
  have hc_2 := bits_High_L w_ r_2 hr_2
  refine RunAt.cut (some 6) (.callf 68) [] none [.d (.int .u16 w_)] (.d (.int .u8 r_2)) [] (by kernel_rfl) (by kernel_rfl) (by kernel_rfl) (cut_call (call_of (ws := []) (us := []) (by kernel_rfl) (by kernel_rfl) hc_2 (by kernel_rfl) (by kernel_rfl))) ?_
  refine RunAt.chunk 2 [⟨.ref [7] 0 0 (List.map (D.int .u8) ([r_1, r_2] : List Int)).length 1, [([7], some (.arr (List.map (D.int .u8) ([r_1, r_2] : List Int)) 0 false))]⟩, ⟨.ref [7] 0 0 (List.map (D.int .u8) ([r_1, r_2] : List Int)).length 1, []⟩] (by kernel_rfl) ?_
  refine RunAt.done (by kernel_rfl) ?_
  refine kS_nrm ?_
  refine Runs.seq ?_
  refine Runs.gcons (frz_ref (e := (D.int .u8)) (l := ([r_1, r_2] : List Int)) (id := [7]) (v := 0) (n := 1) (fz := false) (by kernel_rfl) (by kernel_rfl) rfl) ?_
  refine Runs.gnil ?_
  refine kS_nrm ?_
  refine Runs.ret ?_
  obtain rfl := Option.some.inj h
  exact ⟨Out.ret_ne, (by kernel_rfl)⟩
theorem index_Two_L (w_ : Int) (r : (List Int)) (h : index_Two w_ = some r) : L 20 [.d (.int .u16 w_)] = some (.d (.sl (List.map (D.int .u8) r)), [.d (.int .u16 w_)]) := by
  obtain ⟨p, ⟨hne, hf⟩, hr⟩ := index_Two_ok w_ r h
  obtain ⟨k, hk⟩ := run_of (F := F20) (args := [.d (.int .u16 w_)]) (ap := [.d (.int .u16 w_)]) (bx0 := updW (fun _ => none) []) rfl rfl (by kernel_rfl) ⟨p, ⟨hne, hf⟩, hr⟩
  exact lim_run (k := k) rfl hk
def pubs_Publics_h4 (r3 : Record) (b_2_0 : Int) (l0 : (List Pub)) (v_901_3 : Nat) : St := ⟨tab [(0, .d (.sl (List.map Pub.d l0))), (2, .ptr [2] 0 0), (3, .ptr [3] 0 0)], tabB [([2], some (.cells [.d (.int .u8 b_2_0), .nils] 0)), ([3], some (.cells [.d (.int .u8 r3.Kind), .ref [901, 3] v_901_3 0 (List.map (D.int .u8) r3.Body).length 1] 0)), ([901, 3], some (.arr (List.map (D.int .u8) r3.Body) v_901_3 false))]⟩
def pubs_Publics_h8 (r3 : Record) (b_2_0 : Int) (t7 : (List Pub)) (t8 : Int) (t9 : Int) (v_951_3 : Nat) : St := ⟨tab [(2, .ptr [2] 0 0), (3, .ptr [3] 0 0), (7, .d (.sl (List.map Pub.d t7))), (8, .d (.int .i64 t8)), (9, .d (.int .i64 t9))], tabB [([2], some (.cells [.d (.int .u8 b_2_0), .nils] 0)), ([3], some (.cells [.d (.int .u8 r3.Kind), .ref [951, 3] v_951_3 0 (List.map (D.int .u8) r3.Body).length 1] 0)), ([951, 3], some (.arr (List.map (D.int .u8) r3.Body) v_951_3 false))]⟩
def pubs_Publics_h31 (r3 : Record) (p5 : Pub) (b_2_0 : Int) (t7 : (List Pub)) (t8 : Int) (t9 : Int) (v_951_3 : Nat) : St := ⟨tab [(2, .ptr [2] 0 0), (3, .ptr [3] 0 0), (5, .ptr [5] 0 0), (7, .d (.sl (List.map Pub.d t7))), (8, .d (.int .i64 t8)), (9, .d (.int .i64 t9))], tabB [([2], some (.cells [.d (.int .u8 b_2_0), .nils] 0)), ([3], some (.cells [.d (.int .u8 r3.Kind), .ref [951, 3] v_951_3 0 (List.map (D.int .u8) r3.Body).length 1] 0)), ([5], some (.cells [.d (.int .i64 p5.Group), .d (.int .i64 p5.Seg), .d (.int .u16 p5.Frame), .d (.str p5.Name), .d (.int .u16 p5.Off)] 0)), ([951, 3], some (.arr (List.map (D.int .u8) r3.Body) v_951_3 false))]⟩
def pubs_Publics_h35 (r3 : Record) (b_2_0 : Int) (v_951_3 : Nat) : St := ⟨tab [(2, .ptr [2] 0 0), (3, .ptr [3] 0 0)], tabB [([2], some (.cells [.d (.int .u8 b_2_0), .nils] 0)), ([3], some (.cells [.d (.int .u8 r3.Kind), .ref [951, 3] v_951_3 0 (List.map (D.int .u8) r3.Body).length 1] 0)), ([951, 3], some (.arr (List.map (D.int .u8) r3.Body) v_951_3 false))]⟩
def pubs_Publics_Q (l_ : (List Pub)) (r : Record) (p : Out × St) : Prop := (∀ i, p.1 ≠ .exit i) ∧ finF F37 [.d (.sl (List.map Pub.d l_))] p.2 = some (.d (Record.d r), [.d (.sl (List.map Pub.d l_))])
def pubs_Publics_P8 (l_ : (List Pub)) (b_2_0 : Int) (t7 : (List Pub)) (t8 : Int) (e : Record) (p : Out × St) : Prop := p.1 = .exit 0 ∧ ∃ g : Nat, Canon [.mvB [3] 1 [951, 3]] [2, 3] [[2], [3], [951, 3]] p.2 (pubs_Publics_h35 e b_2_0 g)
theorem pubs_Publics_j31_ok (l_ : (List Pub)) (r3 : Record) (p5 : Pub) (b_2_0 : Int) (t7 : (List Pub)) (t8 : Int) (t9 : Int) (v_951_3 : Nat) (r : (Lp (Record × Int) Record)) (h : pubs_Publics_j31 r3 p5 b_2_0 t7 t8 t9 = some r) : Runs L F37b31 (pubs_Publics_h31 r3 p5 b_2_0 t7 t8 t9 v_951_3) (kB 1 (kS L F37c34 (LQ [.mvB [3] 1 [951, 3]] [2, 3, 7, 8, 9] [[2], [3], [951, 3]] (fun (x : (Record × Int)) (g : Nat) => pubs_Publics_h8 x.1 b_2_0 t7 t8 x.2 g) (pubs_Publics_P8 l_ b_2_0 t7 t8) r))) := by
  unfold pubs_Publics_j31 at h
  refine Runs.seq ?_
  refine Runs.ops ?_
  refine RunAt.chunk 4 [⟨.ptr [3] 0 1, []⟩, ⟨.ref [951, 3] v_951_3 0 (List.map (D.int .u8) r3.Body).length 1, []⟩, ⟨.ptr [5] 0 3, []⟩, ⟨.d (.str p5.Name), []⟩] (by kernel_rfl) ?_
  obtain ⟨r_4, hr_4, h⟩ := bind_s h
  have hc_4 := index_Name_L p5.Name r_4 hr_4
  refine RunAt.cut (some 38) (.callf 18) [] (some []) [.d (.str p5.Name)] (.d (.sl (List.map (D.int .u8) r_4))) [] (by kernel_rfl) (by kernel_rfl) (by kernel_rfl) (cut_call (call_of (ws := []) (us := []) (by kernel_rfl) (by kernel_rfl) hc_4 (by kernel_rfl) (by kernel_rfl))) ?_
  obtain ⟨z_4, hz_4, h⟩ := bind_s h
  refine RunAt.cut (some 39) (.append 1 1 false) [] none [.ref [951, 3] v_951_3 0 (List.map (D.int .u8) r3.Body).length 1, .d (.sl (List.map (D.int .u8) r_4))] (.ref [951, 3] (v_951_3 + 1) 0 (List.map (D.int .u8) z_4).length 1) [([951, 3], some (.arr (List.map (D.int .u8) z_4) (v_951_3 + 1) false))] (by kernel_rfl) (by kernel_rfl) (by kernel_rfl) (cut_appR (e := (D.int .u8)) (l := r3.Body) (fz := false) (ws := []) (ap_data _) (fun _ => rfl) hz_4 (by kernel_rfl) (by kernel_rfl) rfl) ?_
  refine RunAt.chunk 2 [⟨.ptr [3] 0 1, []⟩, ⟨.tup [], [([3], some (.cells [.d (.int .u8 r3.Kind), .ref [951, 3] (v_951_3 + 1) 0 (List.map (D.int .u8) z_4).length 1] 0))]⟩] (by kernel_rfl) ?_
  refine RunAt.done (by kernel_rfl) ?_
  refine kS_nrm ?_
  refine Runs.ops ?_
  refine RunAt.chunk 4 [⟨.ptr [3] 0 1, []⟩, ⟨.ref [951, 3] (v_951_3 + 1) 0 (List.map (D.int .u8) z_4).length 1, []⟩, ⟨.ptr [5] 0 4, []⟩, ⟨.d (.int .u16 p5.Off), []⟩] (by kernel_rfl) ?_
  obtain ⟨r_5, hr_5, h⟩ := bind_s h
  have hc_5 := index_Two_L p5.Off r_5 hr_5
  refine RunAt.cut (some 45) (.callf 20) [[47]] (some []) [.d (.int .u16 p5.Off)] (.d (.sl (List.map (D.int .u8) r_5))) [] (by kernel_rfl) (by kernel_rfl) (by kernel_rfl) (cut_call (call_of (ws := []) (us := []) (by kernel_rfl) (by kernel_rfl) hc_5 (by kernel_rfl) (by kernel_rfl))) ?_
  obtain ⟨z_5, hz_5, h⟩ := bind_s h
  refine RunAt.cut (some 46) (.append 1 1 false) [[47]] (some [[1, 3], [18], [22], [32], [39], [46], [48], [901, 3], [951, 3]]) [.ref [951, 3] (v_951_3 + 1) 0 (List.map (D.int .u8) z_4).length 1, .d (.sl (List.map (D.int .u8) r_5))] (.ref [951, 3] ((v_951_3 + 1) + 1) 0 (List.map (D.int .u8) z_5).length 1) [([951, 3], some (.arr (List.map (D.int .u8) z_5) ((v_951_3 + 1) + 1) false))] (by kernel_rfl) (by kernel_rfl) (by kernel_rfl) (cut_appR (e := (D.int .u8)) (l := z_4) (fz := false) (ws := []) (ap_data _) (fun _ => rfl) hz_5 (by kernel_rfl) (by kernel_rfl) rfl) ?_
  refine RunAt.chunk 1 [⟨.ref [47] 0 0 (List.map (D.int .u8) ([0] : List Int)).length 1, [([47], some (.arr (List.map (D.int .u8) ([0] : List Int)) 0 false))]⟩] (by kernel_rfl) ?_
  obtain ⟨z_6, hz_6, h⟩ := bind_s h
  refine RunAt.cut (some 48) (.append 1 1 false) [] none [.ref [951, 3] ((v_951_3 + 1) + 1) 0 (List.map (D.int .u8) z_5).length 1, .ref [47] 0 0 (List.map (D.int .u8) ([0] : List Int)).length 1] (.ref [951, 3] (((v_951_3 + 1) + 1) + 1) 0 (List.map (D.int .u8) z_6).length 1) [([47], some (.arr (List.map (D.int .u8) ([0] : List Int)) 0 true)), ([951, 3], some (.arr (List.map (D.int .u8) z_6) (((v_951_3 + 1) + 1) + 1) false))] (by kernel_rfl) (by kernel_rfl) (by kernel_rfl) (cut_appR (e := (D.int .u8)) (l := z_5) (fz := false) (ws := [([47], some (.arr (List.map (D.int .u8) ([0] : List Int)) 0 true))]) (ap_ref (e := (D.int .u8)) (l := ([0] : List Int)) (fz := false) (by kernel_rfl) (by kernel_rfl) rfl) (fun _ => rfl) hz_6 (by kernel_rfl) (by kernel_rfl) rfl) ?_
  refine RunAt.chunk 2 [⟨.ptr [3] 0 1, []⟩, ⟨.tup [], [([3], some (.cells [.d (.int .u8 r3.Kind), .ref [951, 3] (((v_951_3 + 1) + 1) + 1) 0 (List.map (D.int .u8) z_6).length 1] 0))]⟩] (by kernel_rfl) ?_
  refine RunAt.done (by kernel_rfl) ?_
  refine kB_nrm ?_
  refine kS_nrm ?_
  refine Runs.ops ?_
  refine RunAt.chunk 2 [⟨.d (.int .i64 (IntKind.wrap .i64 (t9 + 1))), []⟩, ⟨.d (.int .i64 (IntKind.wrap .i64 (t9 + 1))), []⟩] (by kernel_rfl) ?_
  refine RunAt.done (by kernel_rfl) ?_
  obtain rfl := Option.some.inj h
  exact ⟨rfl, (((v_951_3 + 1) + 1) + 1), (Canon.same (by kernel_rfl) (Canon.nil (by kernel_rfl)))⟩
theorem pubs_Publics_l8_ok (l_ : (List Pub)) (r3 : Record) (b_2_0 : Int) (t7 : (List Pub)) (t8 : Int) (t9 : Int) (v_951_3 : Nat) (r : (Lp (Record × Int) Record)) (h : pubs_Publics_l8 r3 b_2_0 t7 t8 t9 = some r) : Runs L F37l8 (pubs_Publics_h8 r3 b_2_0 t7 t8 t9 v_951_3) (LQ [.mvB [3] 1 [951, 3]] [2, 3, 7, 8, 9] [[2], [3], [951, 3]] (fun (x : (Record × Int)) (g : Nat) => pubs_Publics_h8 x.1 b_2_0 t7 t8 x.2 g) (pubs_Publics_P8 l_ b_2_0 t7 t8) r) := by
  unfold pubs_Publics_l8 at h
  refine Runs.seq ?_
  refine Runs.ops ?_
  refine RunAt.chunk 1 [⟨.d (.bool (decide (t9 < t8))), []⟩] (by kernel_rfl) ?_
  refine RunAt.done (by kernel_rfl) ?_
  refine kS_nrm ?_
  refine Runs.seq ?_
  cases hb_1 : ((decide (t9 < t8)) : Bool) with
  | true =>
    replace h := ite_t hb_1 h
    refine Runs.cond_t (by kernel_rfl) ?_
    refine Runs.skip ?_
    refine kS_nrm ?_
    refine Runs.seq ?_
    refine Runs.block ?_
    refine Runs.seq ?_
    refine Runs.ops ?_
    refine RunAt.chunk 1 [⟨.d (.int .i64 t9), []⟩] (by kernel_rfl) ?_
    obtain ⟨z_1, hz_1, h⟩ := bind_s h
    refine RunAt.cut (some 12) (.iaddrS 5) [] none [.d (.sl (List.map Pub.d t7)), .d (.int .i64 t9)] (.elt (Pub.d z_1) 0) [] (by kernel_rfl) (by kernel_rfl) (by kernel_rfl) (cut_at hz_1 (fun _ => rfl)) ?_
    refine RunAt.chunk 4 [⟨.d (Pub.d z_1), []⟩, ⟨.ptr [5] 0 0, [([5], some (.cells [.d (.int .i64 0), .d (.int .i64 0), .d (.int .u16 0), .d (.str []), .d (.int .u16 0)] 0))]⟩, ⟨.d (.int .i64 t9), []⟩, ⟨.tup [], [([5], some (.cells [.d (.int .i64 z_1.Group), .d (.int .i64 z_1.Seg), .d (.int .u16 z_1.Frame), .d (.str z_1.Name), .d (.int .u16 z_1.Off)] 0))]⟩] (by kernel_rfl) ?_
    refine RunAt.done (by kernel_rfl) ?_
    refine kS_nrm ?_
    refine Runs.seq ?_
    refine Runs.seq ?_
    refine Runs.ops ?_
    refine RunAt.chunk 2 [⟨.d (.int .i64 t9), []⟩, ⟨.d (.bool (t9 == 0)), []⟩] (by kernel_rfl) ?_
    refine RunAt.done (by kernel_rfl) ?_
    refine kS_nrm ?_
    cases hb_2 : ((t9 == 0) : Bool) with
    | true =>
      replace h := ite_t hb_2 h
      refine Runs.cond_t (by kernel_rfl) ?_
      refine Runs.seq ?_
      refine Runs.ops ?_
      refine RunAt.chunk 2 [⟨.ptr [5] 0 0, []⟩, ⟨.d (.int .i64 z_1.Group), []⟩] (by kernel_rfl) ?_
      obtain ⟨r_1, hr_1, h⟩ := bind_s h
      have hc_1 := index_Put_L z_1.Group r_1 hr_1
      refine RunAt.cut (some 18) (.callf 16) [] (some []) [.d (.int .i64 z_1.Group)] (.ref [18] 0 0 (List.map (D.int .u8) r_1).length 1) [([18], some (.arr (List.map (D.int .u8) r_1) 0 false))] (by kernel_rfl) (by kernel_rfl) (by kernel_rfl) (cut_call (call_of (ws := []) (us := []) (by kernel_rfl) (gives_cons (ws := []) (give_same (by kernel_rfl)) gives_nil) hc_1 (by kernel_rfl) (by kernel_rfl))) ?_
      refine RunAt.chunk 2 [⟨.ptr [5] 0 1, []⟩, ⟨.d (.int .i64 z_1.Seg), []⟩] (by kernel_rfl) ?_
      obtain ⟨r_2, hr_2, h⟩ := bind_s h
      have hc_2 := index_Put_L z_1.Seg r_2 hr_2
      refine RunAt.cut (some 21) (.callf 16) [] none [.d (.int .i64 z_1.Seg)] (.ref [21] 0 0 (List.map (D.int .u8) r_2).length 1) [([21], some (.arr (List.map (D.int .u8) r_2) 0 false))] (by kernel_rfl) (by kernel_rfl) (by kernel_rfl) (cut_call (call_of (ws := []) (us := []) (by kernel_rfl) (gives_cons (ws := []) (give_same (by kernel_rfl)) gives_nil) hc_2 (by kernel_rfl) (by kernel_rfl))) ?_
      obtain ⟨z_2, hz_2, h⟩ := bind_s h
      refine RunAt.cut (some 22) (.append 1 1 false) [] none [.ref [18] 0 0 (List.map (D.int .u8) r_1).length 1, .ref [21] 0 0 (List.map (D.int .u8) r_2).length 1] (.ref [18] 1 0 (List.map (D.int .u8) z_2).length 1) [([21], some (.arr (List.map (D.int .u8) r_2) 0 true)), ([18], some (.arr (List.map (D.int .u8) z_2) 1 false))] (by kernel_rfl) (by kernel_rfl) (by kernel_rfl) (cut_appR (e := (D.int .u8)) (l := r_1) (fz := false) (ws := [([21], some (.arr (List.map (D.int .u8) r_2) 0 true))]) (ap_ref (e := (D.int .u8)) (l := r_2) (fz := false) (by kernel_rfl) (by kernel_rfl) rfl) (fun _ => rfl) hz_2 (by kernel_rfl) (by kernel_rfl) rfl) ?_
      refine RunAt.chunk 2 [⟨.ptr [3] 0 1, []⟩, ⟨.tup [], [([3], some (.cells [.d (.int .u8 r3.Kind), .ref [18] 1 0 (List.map (D.int .u8) z_2).length 1] 0))]⟩] (by kernel_rfl) ?_
      refine RunAt.done (by kernel_rfl) ?_
      refine kS_nrm ?_
      refine Runs.seq ?_
      refine Runs.ops ?_
      refine RunAt.chunk 3 [⟨.ptr [5] 0 1, []⟩, ⟨.d (.int .i64 z_1.Seg), []⟩, ⟨.d (.bool (z_1.Seg == 0)), []⟩] (by kernel_rfl) ?_
      refine RunAt.done (by kernel_rfl) ?_
      refine kS_nrm ?_
      cases hb_3 : ((z_1.Seg == 0) : Bool) with
      | true =>
        replace h := ite_t hb_3 h
        refine Runs.cond_t (by kernel_rfl) ?_
        refine Runs.ops ?_
        refine RunAt.chunk 4 [⟨.ptr [3] 0 1, []⟩, ⟨.ref [18] 1 0 (List.map (D.int .u8) z_2).length 1, []⟩, ⟨.ptr [5] 0 2, []⟩, ⟨.d (.int .u16 z_1.Frame), []⟩] (by kernel_rfl) ?_
        obtain ⟨r_3, hr_3, h⟩ := bind_s h
        have hc_3 := index_Two_L z_1.Frame r_3 hr_3
        refine RunAt.cut (some 31) (.callf 20) [] (some []) [.d (.int .u16 z_1.Frame)] (.d (.sl (List.map (D.int .u8) r_3))) [] (by kernel_rfl) (by kernel_rfl) (by kernel_rfl) (cut_call (call_of (ws := []) (us := []) (by kernel_rfl) (by kernel_rfl) hc_3 (by kernel_rfl) (by kernel_rfl))) ?_
        obtain ⟨z_3, hz_3, h⟩ := bind_s h
        refine RunAt.cut (some 32) (.append 1 1 false) [] none [.ref [18] 1 0 (List.map (D.int .u8) z_2).length 1, .d (.sl (List.map (D.int .u8) r_3))] (.ref [18] 2 0 (List.map (D.int .u8) z_3).length 1) [([18], some (.arr (List.map (D.int .u8) z_3) 2 false))] (by kernel_rfl) (by kernel_rfl) (by kernel_rfl) (cut_appR (e := (D.int .u8)) (l := z_2) (fz := false) (ws := []) (ap_data _) (fun _ => rfl) hz_3 (by kernel_rfl) (by kernel_rfl) rfl) ?_
        refine RunAt.chunk 2 [⟨.ptr [3] 0 1, []⟩, ⟨.tup [], [([3], some (.cells [.d (.int .u8 r3.Kind), .ref [18] 2 0 (List.map (D.int .u8) z_3).length 1] 0))]⟩] (by kernel_rfl) ?_
        refine RunAt.done (by kernel_rfl) ?_
        refine kS_nrm ?_
        refine Runs.canon (pubs_Publics_h31 ({ Kind := r3.Kind, Body := z_3 } : Record) z_1 b_2_0 t7 t8 t9 (v_951_3 + 1)) (Canon.cons (mvB_ref (i := [18]) (v := 2) (len := (List.map (D.int .u8) z_3).length) (n := 1) (es := List.map (D.int .u8) z_3) (fz := false) (w := (v_951_3 + 1)) (ver := 0) (cs := [.d (.int .u8 r3.Kind), .ref [18] 2 0 (List.map (D.int .u8) z_3).length 1]) (cs' := [.d (.int .u8 r3.Kind), .ref [951, 3] (v_951_3 + 1) 0 (List.map (D.int .u8) z_3).length 1]) (by kernel_rfl) (by kernel_rfl) (by kernel_rfl) (by decide) (by decide) (by decide) (by kernel_rfl) (by kernel_rfl)) (Canon.nil (by kernel_rfl))) ?_
        exact pubs_Publics_j31_ok l_ ({ Kind := r3.Kind, Body := z_3 } : Record) z_1 b_2_0 t7 t8 t9 (v_951_3 + 1) r h
      | false =>
        replace h := ite_f hb_3 h
        refine Runs.cond_f (by kernel_rfl) ?_
        refine Runs.skip ?_
        refine kS_nrm ?_
        refine Runs.canon (pubs_Publics_h31 ({ Kind := r3.Kind, Body := z_2 } : Record) z_1 b_2_0 t7 t8 t9 (v_951_3 + 1)) (Canon.cons (mvB_ref (i := [18]) (v := 1) (len := (List.map (D.int .u8) z_2).length) (n := 1) (es := List.map (D.int .u8) z_2) (fz := false) (w := (v_951_3 + 1)) (ver := 0) (cs := [.d (.int .u8 r3.Kind), .ref [18] 1 0 (List.map (D.int .u8) z_2).length 1]) (cs' := [.d (.int .u8 r3.Kind), .ref [951, 3] (v_951_3 + 1) 0 (List.map (D.int .u8) z_2).length 1]) (by kernel_rfl) (by kernel_rfl) (by kernel_rfl) (by decide) (by decide) (by decide) (by kernel_rfl) (by kernel_rfl)) (Canon.nil (by kernel_rfl))) ?_
        exact pubs_Publics_j31_ok l_ ({ Kind := r3.Kind, Body := z_2 } : Record) z_1 b_2_0 t7 t8 t9 (v_951_3 + 1) r h
    | false =>
      replace h := ite_f hb_2 h
      refine Runs.cond_f (by kernel_rfl) ?_
      refine Runs.skip ?_
      refine kS_nrm ?_
      refine Runs.canon (pubs_Publics_h31 r3 z_1 b_2_0 t7 t8 t9 v_951_3) (Canon.same (by kernel_rfl) (Canon.nil (by kernel_rfl))) ?_
      exact pubs_Publics_j31_ok l_ r3 z_1 b_2_0 t7 t8 t9 v_951_3 r h
  | false =>
    replace h := ite_f hb_1 h
    refine Runs.cond_f (by kernel_rfl) ?_
    refine Runs.exit ?_
    refine kS_exit ?_
    obtain rfl := Option.some.inj h
    exact ⟨nofun, rfl, v_951_3, (Canon.same (by kernel_rfl) (Canon.nil (by kernel_rfl)))⟩
theorem pubs_Publics_ok (l_ : (List Pub)) (r : Record) (h : pubs_Publics l_ = some r) : Runs L F37.body ⟨tmOf [.d (.sl (List.map Pub.d l_))] 0, updW (fun _ => none) []⟩ (pubs_Publics_Q l_ r) := by
  unfold pubs_Publics at h
  refine Runs.seq ?_
  refine Runs.ops ?_
  refine RunAt.chunk 1 [⟨.ptr [2] 0 0, [([2], some (.cells [.d (.int .u8 0), .nils] 0))]⟩] (by kernel_rfl) ?_
  refine RunAt.done (by kernel_rfl) ?_
  refine kS_nrm ?_
  refine Runs.seq ?_
  refine Runs.ops ?_
  refine RunAt.chunk 3 [⟨.mix [.d (.int .u8 144), .nils], []⟩, ⟨.ptr [3] 0 0, [([3], some (.cells [.d (.int .u8 0), .nils] 0))]⟩, ⟨.tup [], [([3], some (.cells [.d (.int .u8 144), .nils] 0))]⟩] (by kernel_rfl) ?_
  refine RunAt.done (by kernel_rfl) ?_
  refine kS_nrm ?_
  refine Runs.canon (pubs_Publics_h4 ({ Kind := 144, Body := ([] : List Int) } : Record) 0 l_ 0) (Canon.cons (ownB_nil (ver := 0) (v := 0) (cs := [.d (.int .u8 144), .nils]) (cs' := [.d (.int .u8 144), .ref [901, 3] 0 0 (List.map (D.int .u8) ([] : List Int)).length 1]) (D.int .u8) (by kernel_rfl) (by kernel_rfl) (by kernel_rfl) (by decide) (by kernel_rfl)) (Canon.nil (by kernel_rfl))) ?_
  refine Runs.seq ?_
  refine Runs.seq ?_
  refine Runs.ops ?_
  refine RunAt.chunk 1 [⟨.d (.sl (List.map Pub.d l_)), []⟩] (by kernel_rfl) ?_
  refine RunAt.cut (some 8) .lenL [] none [.d (.sl (List.map Pub.d l_))] (.d (.int .i64 (l_.length : Int))) [] (by kernel_rfl) (by kernel_rfl) (by kernel_rfl) (cut_len _) ?_
  refine RunAt.chunk 1 [⟨.d (.int .i64 0), []⟩] (by kernel_rfl) ?_
  refine RunAt.done (by kernel_rfl) ?_
  refine kS_nrm ?_
  refine Runs.block ?_
  obtain ⟨e_1, he_1, h⟩ := bind_s h
  refine Runs.loop (fun x : (Record × Int) => pubs_Publics_l8 x.1 0 l_ (l_.length : Int) x.2) (fun (x : (Record × Int)) (g : Nat) => pubs_Publics_h8 x.1 0 l_ (l_.length : Int) x.2 g) (pubs_Publics_P8 l_ 0 l_ (l_.length : Int)) (fun x g r hr => pubs_Publics_l8_ok l_ x.1 0 l_ (l_.length : Int) x.2 g r hr) 0 he_1 (Canon.cons (mvB_ref (i := [901, 3]) (v := 0) (len := (List.map (D.int .u8) ([] : List Int)).length) (n := 1) (es := List.map (D.int .u8) ([] : List Int)) (fz := false) (w := 0) (ver := 0) (cs := [.d (.int .u8 144), .ref [901, 3] 0 0 (List.map (D.int .u8) ([] : List Int)).length 1]) (cs' := [.d (.int .u8 144), .ref [951, 3] 0 0 (List.map (D.int .u8) ([] : List Int)).length 1]) (by kernel_rfl) (by kernel_rfl) (by kernel_rfl) (by decide) (by decide) (by decide) (by kernel_rfl) (by kernel_rfl)) (Canon.nil (by kernel_rfl))) ?_
  rintro ⟨o, s⟩ hp
  obtain ⟨ho, g_1, hk_1⟩ := hp
  have ho' : o = .exit 0 := ho
  subst ho'
  refine kB_hit ?_
  refine kS_nrm ?_
  refine Runs.canon _ hk_1 ?_
  refine Runs.seq ?_
  refine Runs.ops ?_
  refine RunAt.chunk 2 [⟨.mix [.d (.int .u8 e_1.Kind), .ref [951, 3] g_1 0 (List.map (D.int .u8) e_1.Body).length 1], []⟩, ⟨.tup [], [([2], some (.cells [.d (.int .u8 e_1.Kind), .ref [951, 3] g_1 0 (List.map (D.int .u8) e_1.Body).length 1] 0))]⟩] (by kernel_rfl) ?_
  refine RunAt.done (by kernel_rfl) ?_
  refine kS_nrm ?_
  refine Runs.seq ?_
  refine Runs.gcons (frzB_ref (e := (D.int .u8)) (l := e_1.Body) (id := [2]) (id' := [951, 3]) (v := g_1) (n := 1) (fz := false) (ver := 0) (cs := [.d (.int .u8 e_1.Kind), .ref [951, 3] g_1 0 (List.map (D.int .u8) e_1.Body).length 1]) (cs' := [.d (.int .u8 e_1.Kind), .d (.sl (List.map (D.int .u8) e_1.Body))]) (by kernel_rfl) (by kernel_rfl) (by kernel_rfl) (by decide) (by kernel_rfl) rfl) ?_
  refine Runs.gnil ?_
  refine kS_nrm ?_
  refine Runs.ret ?_
  obtain rfl := Option.some.inj h
  exact ⟨Out.ret_ne, (by kernel_rfl)⟩
theorem pubs_Publics_L (l_ : (List Pub)) (r : Record) (h : pubs_Publics l_ = some r) : L 37 [.d (.sl (List.map Pub.d l_))] = some (.d (Record.d r), [.d (.sl (List.map Pub.d l_))]) := by
  obtain ⟨p, ⟨hne, hf⟩, hr⟩ := pubs_Publics_ok l_ r h
  obtain ⟨k, hk⟩ := run_of (F := F37) (args := [.d (.sl (List.map Pub.d l_))]) (ap := [.d (.sl (List.map Pub.d l_))]) (bx0 := updW (fun _ => none) []) rfl rfl (by kernel_rfl) ⟨p, ⟨hne, hf⟩, hr⟩
  exact lim_run (k := k) rfl hk
def bits_Word_Q (low_ : Int) (high_ : Int) (r : Int) (p : Out × St) : Prop := (∀ i, p.1 ≠ .exit i) ∧ finF F69 [.d (.int .u8 low_), .d (.int .u8 high_)] p.2 = some (.d (.int .u16 r), [.d (.int .u8 low_), .d (.int .u8 high_)])
theorem bits_Word_ok (low_ : Int) (high_ : Int) (r : Int) (h : bits_Word low_ high_ = some r) : Runs L F69.body ⟨tmOf [.d (.int .u8 low_), .d (.int .u8 high_)] 0, updW (fun _ => none) []⟩ (bits_Word_Q low_ high_ r) := by
  unfold bits_Word at h
  refine Runs.seq ?_
  refine Runs.ops ?_
  refine RunAt.chunk 1 [⟨.d (.int .u16 0), []⟩] (by kernel_rfl) ?_
  refine RunAt.done (by kernel_rfl) ?_
  refine kS_nrm ?_
  refine Runs.seq ?_
  refine Runs.ops ?_
  refine RunAt.chunk 7 [⟨.d (.int .u8 low_), []⟩, ⟨.d (.int .u16 (IntKind.wrap .u16 low_)), []⟩, ⟨.d (.int .u8 high_), []⟩, ⟨.d (.int .u16 (IntKind.wrap .u16 high_)), []⟩, ⟨.d (.int .u16 (shlI .u16 (IntKind.wrap .u16 high_) 8)), []⟩, ⟨.d (.int .u16 (bitsOp .or .u16 (IntKind.wrap .u16 low_) (shlI .u16 (IntKind.wrap .u16 high_) 8))), []⟩, ⟨.d (.int .u16 (bitsOp .or .u16 (IntKind.wrap .u16 low_) (shlI .u16 (IntKind.wrap .u16 high_) 8))), []⟩] (by kernel_rfl) ?_
  refine RunAt.done (by kernel_rfl) ?_
  refine kS_nrm ?_
  refine Runs.ret ?_
  obtain rfl := Option.some.inj h
  exact ⟨Out.ret_ne, (by kernel_rfl)⟩
theorem bits_Word_L (low_ : Int) (high_ : Int) (r : Int) (h : bits_Word low_ high_ = some r) : L 69 [.d (.int .u8 low_), .d (.int .u8 high_)] = some (.d (.int .u16 r), [.d (.int .u8 low_), .d (.int .u8 high_)]) := by
  obtain ⟨p, ⟨hne, hf⟩, hr⟩ := bits_Word_ok low_ high_ r h
  obtain ⟨k, hk⟩ := run_of (F := F69) (args := [.d (.int .u8 low_), .d (.int .u8 high_)]) (ap := [.d (.int .u8 low_), .d (.int .u8 high_)]) (bx0 := updW (fun _ => none) []) rfl rfl (by kernel_rfl) ⟨p, ⟨hne, hf⟩, hr⟩
  exact lim_run (k := k) rfl hk
def index_Source_Word_Q (s_ : Source) (r : (Int × Source)) (p : Out × St) : Prop := (∀ i, p.1 ≠ .exit i) ∧ finF F30 [.ptr [0] 0 0] p.2 = some (.d (.int .u16 r.1), [.ptr [.d (.sl (List.map (D.int .u8) r.2.b)), .d (.int .i64 r.2.e)]])
theorem index_Source_Word_ok (s_ : Source) (r : (Int × Source)) (h : index_Source_Word s_ = some r) : Runs L F30.body ⟨tmOf [.ptr [0] 0 0] 0, updW (fun _ => none) [([0], some (.cells [.d (.sl (List.map (D.int .u8) s_.b)), .d (.int .i64 s_.e)] 0))]⟩ (index_Source_Word_Q s_ r) := by
  unfold index_Source_Word at h
  refine Runs.seq ?_
  refine Runs.ops ?_
  refine RunAt.chunk 1 [⟨.d (.int .u16 0), []⟩] (by kernel_rfl) ?_
  refine RunAt.done (by kernel_rfl) ?_
  refine kS_nrm ?_
  refine Runs.seq ?_
  refine Runs.seq ?_
  refine Runs.ops ?_
  refine RunAt.chunk 1 [⟨.ptr [0] 0 0, []⟩] (by kernel_rfl) ?_
  obtain ⟨r_1, hr_1, h⟩ := bind_s h
  have hc_1 := index_Source_Take_L s_ 2 r_1 hr_1
  refine RunAt.cut (some 5) (.callf 26) [] none [.ptr [0] 0 0, .d (.int .i64 2)] (.d (.sl (List.map (D.int .u8) r_1.1))) [([0], some (.cells [.d (.sl (List.map (D.int .u8) r_1.2.b)), .d (.int .i64 r_1.2.e)] 0))] (by kernel_rfl) (by kernel_rfl) (by kernel_rfl) (cut_call (call_of (ws := []) (us := [([0], some (.cells [.d (.sl (List.map (D.int .u8) r_1.2.b)), .d (.int .i64 r_1.2.e)] 0))]) (by kernel_rfl) (by kernel_rfl) hc_1 (by kernel_rfl) (by kernel_rfl))) ?_
  refine RunAt.chunk 1 [⟨.d (.sl (List.map (D.int .u8) r_1.1)), []⟩] (by kernel_rfl) ?_
  refine RunAt.done (by kernel_rfl) ?_
  refine kS_nrm ?_
  refine Runs.seq ?_
  refine Runs.ops ?_
  refine RunAt.chunk 1 [⟨.d (.sl (List.map (D.int .u8) r_1.1)), []⟩] (by kernel_rfl) ?_
  refine RunAt.cut (some 7) .lenL [] none [.d (.sl (List.map (D.int .u8) r_1.1))] (.d (.int .i64 (r_1.1.length : Int))) [] (by kernel_rfl) (by kernel_rfl) (by kernel_rfl) (cut_len _) ?_
  refine RunAt.chunk 1 [⟨.d (.bool ((r_1.1.length : Int) == 2)), []⟩] (by kernel_rfl) ?_
  refine RunAt.done (by kernel_rfl) ?_
  refine kS_nrm ?_
  cases hb_1 : (((r_1.1.length : Int) == 2) : Bool) with
  | true =>
    replace h := ite_t hb_1 h
    refine Runs.cond_t (by kernel_rfl) ?_
    refine Runs.seq ?_
    refine Runs.ops ?_
    refine RunAt.chunk 1 [⟨.d (.sl (List.map (D.int .u8) r_1.1)), []⟩] (by kernel_rfl) ?_
    obtain ⟨z_1, hz_1, h⟩ := bind_s h
    refine RunAt.cut (some 10) (.iaddrS 1) [] none [.d (.sl (List.map (D.int .u8) r_1.1)), .d (.int .i64 0)] (.elt (.int .u8 z_1) 0) [] (by kernel_rfl) (by kernel_rfl) (by kernel_rfl) (cut_at hz_1 (fun _ => rfl)) ?_
    refine RunAt.chunk 2 [⟨.d (.int .u8 z_1), []⟩, ⟨.d (.sl (List.map (D.int .u8) r_1.1)), []⟩] (by kernel_rfl) ?_
    obtain ⟨z_2, hz_2, h⟩ := bind_s h
    refine RunAt.cut (some 13) (.iaddrS 1) [] none [.d (.sl (List.map (D.int .u8) r_1.1)), .d (.int .i64 1)] (.elt (.int .u8 z_2) 0) [] (by kernel_rfl) (by kernel_rfl) (by kernel_rfl) (cut_at hz_2 (fun _ => rfl)) ?_
    refine RunAt.chunk 1 [⟨.d (.int .u8 z_2), []⟩] (by kernel_rfl) ?_
    obtain ⟨r_2, hr_2, h⟩ := bind_s h
    have hc_2 := bits_Word_L z_1 z_2 r_2 hr_2
    refine RunAt.cut (some 15) (.callf 69) [] none [.d (.int .u8 z_1), .d (.int .u8 z_2)] (.d (.int .u16 r_2)) [] (by kernel_rfl) (by kernel_rfl) (by kernel_rfl) (cut_call (call_of (ws := []) (us := []) (by kernel_rfl) (by kernel_rfl) hc_2 (by kernel_rfl) (by kernel_rfl))) ?_
    refine RunAt.chunk 1 [⟨.d (.int .u16 r_2), []⟩] (by kernel_rfl) ?_
    refine RunAt.done (by kernel_rfl) ?_
    refine kS_nrm ?_
    refine Runs.ret ?_
    refine kS_ret ?_
    obtain rfl := Option.some.inj h
    exact ⟨Out.ret_ne, (by kernel_rfl)⟩
  | false =>
    replace h := ite_f hb_1 h
    refine Runs.cond_f (by kernel_rfl) ?_
    refine Runs.skip ?_
    refine kS_nrm ?_
    refine Runs.seq ?_
    refine Runs.ops ?_
    refine RunAt.chunk 1 [⟨.d (.int .u16 0), []⟩] (by kernel_rfl) ?_
    refine RunAt.done (by kernel_rfl) ?_
    refine kS_nrm ?_
    refine Runs.ret ?_
    obtain rfl := Option.some.inj h
    exact ⟨Out.ret_ne, (by kernel_rfl)⟩
theorem index_Source_Word_L (s_ : Source) (r : (Int × Source)) (h : index_Source_Word s_ = some r) : L 30 [.ptr [.d (.sl (List.map (D.int .u8) s_.b)), .d (.int .i64 s_.e)]] = some (.d (.int .u16 r.1), [.ptr [.d (.sl (List.map (D.int .u8) r.2.b)), .d (.int .i64 r.2.e)]]) := by
  obtain ⟨p, ⟨hne, hf⟩, hr⟩ := index_Source_Word_ok s_ r h
  obtain ⟨k, hk⟩ := run_of (F := F30) (args := [.ptr [.d (.sl (List.map (D.int .u8) s_.b)), .d (.int .i64 s_.e)]]) (ap := [.ptr [0] 0 0]) (bx0 := updW (fun _ => none) [([0], some (.cells [.d (.sl (List.map (D.int .u8) s_.b)), .d (.int .i64 s_.e)] 0))]) rfl rfl (by kernel_rfl) ⟨p, ⟨hne, hf⟩, hr⟩
  exact lim_run (k := k) rfl hk
def pubs_Given_h12 (base5 : Pub) (b_10 : Source) : St := ⟨tab [(4, .ptr [10] 0 0), (5, .ptr [5] 0 0)], tabB [([5], some (.cells [.d (.int .i64 base5.Group), .d (.int .i64 base5.Seg), .d (.int .u16 base5.Frame), .d (.str base5.Name), .d (.int .u16 base5.Off)] 0)), ([10], some (.cells [.d (.sl (List.map (D.int .u8) b_10.b)), .d (.int .i64 b_10.e)] 0))]⟩
def pubs_Given_h14 (base5 : Pub) (b_10 : Source) (out6 : (List Pub)) (v_6 : Nat) : St := ⟨tab [(4, .ptr [10] 0 0), (5, .ptr [5] 0 0), (6, .ref [6] v_6 0 (List.map Pub.d out6).length 5)], tabB [([5], some (.cells [.d (.int .i64 base5.Group), .d (.int .i64 base5.Seg), .d (.int .u16 base5.Frame), .d (.str base5.Name), .d (.int .u16 base5.Off)] 0)), ([6], some (.arr (List.map Pub.d out6) v_6 false)), ([10], some (.cells [.d (.sl (List.map (D.int .u8) b_10.b)), .d (.int .i64 b_10.e)] 0))]⟩
def pubs_Given_h16 (base5 : Pub) (b_10 : Source) (out6 : (List Pub)) (v_6 : Nat) : St := ⟨tab [(4, .ptr [10] 0 0), (5, .ptr [5] 0 0), (6, .ref [6] v_6 0 (List.map Pub.d out6).length 5)], tabB [([5], some (.cells [.d (.int .i64 base5.Group), .d (.int .i64 base5.Seg), .d (.int .u16 base5.Frame), .d (.str base5.Name), .d (.int .u16 base5.Off)] 0)), ([6], some (.arr (List.map Pub.d out6) v_6 false)), ([10], some (.cells [.d (.sl (List.map (D.int .u8) b_10.b)), .d (.int .i64 b_10.e)] 0))]⟩
def pubs_Given_h31 (b_10 : Source) (out6 : (List Pub)) (v_6 : Nat) : St := ⟨tab [(4, .ptr [10] 0 0), (6, .ref [6] v_6 0 (List.map Pub.d out6).length 5)], tabB [([6], some (.arr (List.map Pub.d out6) v_6 false)), ([10], some (.cells [.d (.sl (List.map (D.int .u8) b_10.b)), .d (.int .i64 b_10.e)] 0))]⟩
def pubs_Given_Q (b_ : (List Int)) (r : ((List Pub) × Int)) (p : Out × St) : Prop := (∀ i, p.1 ≠ .exit i) ∧ finF F40 [.d (.sl (List.map (D.int .u8) b_))] p.2 = some (.tup [.d (.sl (List.map Pub.d r.1)), .d (.int .i64 r.2)], [.d (.sl (List.map (D.int .u8) b_))])
def pubs_Given_P16 (b_ : (List Int)) (base5 : Pub) (e : ((List Pub) × Source)) (p : Out × St) : Prop := p.1 = .exit 0 ∧ ∃ g : Nat, Canon [] [4, 6] [[6], [10]] p.2 (pubs_Given_h31 e.2 e.1 g)
theorem pubs_Given_l16_ok (b_ : (List Int)) (base5 : Pub) (b_10 : Source) (out6 : (List Pub)) (v_6 : Nat) (r : (Lp (Source × (List Pub)) ((List Pub) × Source))) (h : pubs_Given_l16 base5 b_10 out6 = some r) : Runs L F40l16 (pubs_Given_h16 base5 b_10 out6 v_6) (LQ [] [4, 5, 6] [[5], [6], [10]] (fun (x : (Source × (List Pub))) (g : Nat) => pubs_Given_h16 base5 x.1 x.2 g) (pubs_Given_P16 b_ base5) r) := by
  unfold pubs_Given_l16 at h
  refine Runs.seq ?_
  refine Runs.seq ?_
  refine Runs.ops ?_
  refine RunAt.chunk 1 [⟨.ptr [10] 0 0, []⟩] (by kernel_rfl) ?_
  obtain ⟨r_5, hr_5, h⟩ := bind_s h
  have hc_5 := index_Source_Left_L b_10 r_5 hr_5
  refine RunAt.cut (some 23) (.callf 29) [] none [.ptr [10] 0 0] (.d (.int .i64 r_5)) [([10], some (.cells [.d (.sl (List.map (D.int .u8) b_10.b)), .d (.int .i64 b_10.e)] 0))] (by kernel_rfl) (by kernel_rfl) (by kernel_rfl) (cut_call (call_of (ws := []) (us := [([10], some (.cells [.d (.sl (List.map (D.int .u8) b_10.b)), .d (.int .i64 b_10.e)] 0))]) (by kernel_rfl) (by kernel_rfl) hc_5 (by kernel_rfl) (by kernel_rfl))) ?_
  refine RunAt.chunk 1 [⟨.d (.bool (decide (r_5 > 0))), []⟩] (by kernel_rfl) ?_
  refine RunAt.done (by kernel_rfl) ?_
  refine kS_nrm ?_
  cases hb_2 : ((decide (r_5 > 0)) : Bool) with
  | true =>
    replace h := ite_t hb_2 h
    refine Runs.cond_t (by kernel_rfl) ?_
    refine Runs.skip ?_
    refine kS_nrm ?_
    refine Runs.block ?_
    refine Runs.seq ?_
    refine Runs.ops ?_
    refine RunAt.chunk 3 [⟨.d (Pub.d base5), []⟩, ⟨.ptr [7] 0 0, [([7], some (.cells [.d (.int .i64 0), .d (.int .i64 0), .d (.int .u16 0), .d (.str []), .d (.int .u16 0)] 0))]⟩, ⟨.tup [], [([7], some (.cells [.d (.int .i64 base5.Group), .d (.int .i64 base5.Seg), .d (.int .u16 base5.Frame), .d (.str base5.Name), .d (.int .u16 base5.Off)] 0))]⟩] (by kernel_rfl) ?_
    refine RunAt.done (by kernel_rfl) ?_
    refine kS_nrm ?_
    refine Runs.seq ?_
    refine Runs.ops ?_
    refine RunAt.chunk 1 [⟨.ptr [10] 0 0, []⟩] (by kernel_rfl) ?_
    obtain ⟨r_6, hr_6, h⟩ := bind_s h
    have hc_6 := index_Source_Name_L b_10 r_6 hr_6
    refine RunAt.cut (some 27) (.callf 32) [] none [.ptr [10] 0 0] (.d (.str r_6.1)) [([10], some (.cells [.d (.sl (List.map (D.int .u8) r_6.2.b)), .d (.int .i64 r_6.2.e)] 0))] (by kernel_rfl) (by kernel_rfl) (by kernel_rfl) (cut_call (call_of (ws := []) (us := [([10], some (.cells [.d (.sl (List.map (D.int .u8) r_6.2.b)), .d (.int .i64 r_6.2.e)] 0))]) (by kernel_rfl) (by kernel_rfl) hc_6 (by kernel_rfl) (by kernel_rfl))) ?_
    refine RunAt.chunk 1 [⟨.ptr [10] 0 0, []⟩] (by kernel_rfl) ?_
    obtain ⟨r_7, hr_7, h⟩ := bind_s h
    have hc_7 := index_Source_Word_L r_6.2 r_7 hr_7
    refine RunAt.cut (some 29) (.callf 30) [] none [.ptr [10] 0 0] (.d (.int .u16 r_7.1)) [([10], some (.cells [.d (.sl (List.map (D.int .u8) r_7.2.b)), .d (.int .i64 r_7.2.e)] 0))] (by kernel_rfl) (by kernel_rfl) (by kernel_rfl) (cut_call (call_of (ws := []) (us := [([10], some (.cells [.d (.sl (List.map (D.int .u8) r_7.2.b)), .d (.int .i64 r_7.2.e)] 0))]) (by kernel_rfl) (by kernel_rfl) hc_7 (by kernel_rfl) (by kernel_rfl))) ?_
    refine RunAt.chunk 4 [⟨.ptr [7] 0 3, []⟩, ⟨.tup [], [([7], some (.cells [.d (.int .i64 base5.Group), .d (.int .i64 base5.Seg), .d (.int .u16 base5.Frame), .d (.str r_6.1), .d (.int .u16 base5.Off)] 0))]⟩, ⟨.ptr [7] 0 4, []⟩, ⟨.tup [], [([7], some (.cells [.d (.int .i64 base5.Group), .d (.int .i64 base5.Seg), .d (.int .u16 base5.Frame), .d (.str r_6.1), .d (.int .u16 r_7.1)] 0))]⟩] (by kernel_rfl) ?_
    refine RunAt.done (by kernel_rfl) ?_
    refine kS_nrm ?_
    refine Runs.seq ?_
    refine Runs.ops ?_
    refine RunAt.chunk 1 [⟨.ptr [10] 0 0, []⟩] (by kernel_rfl) ?_
    obtain ⟨r_8, hr_8, h⟩ := bind_s h
    have hc_8 := index_Source_Index_L r_7.2 r_8 hr_8
    refine RunAt.cut (some 33) (.callf 31) [] none [.ptr [10] 0 0] (.d (.int .i64 r_8.1)) [([10], some (.cells [.d (.sl (List.map (D.int .u8) r_8.2.b)), .d (.int .i64 r_8.2.e)] 0))] (by kernel_rfl) (by kernel_rfl) (by kernel_rfl) (cut_call (call_of (ws := []) (us := [([10], some (.cells [.d (.sl (List.map (D.int .u8) r_8.2.b)), .d (.int .i64 r_8.2.e)] 0))]) (by kernel_rfl) (by kernel_rfl) hc_8 (by kernel_rfl) (by kernel_rfl))) ?_
    refine RunAt.done (by kernel_rfl) ?_
    refine kS_nrm ?_
    refine Runs.ops ?_
    refine RunAt.chunk 3 [⟨.ref [6] v_6 0 (List.map Pub.d out6).length 5, []⟩, ⟨.d (.agg [.int .i64 base5.Group, .int .i64 base5.Seg, .int .u16 base5.Frame, .str r_6.1, .int .u16 r_7.1]), []⟩, ⟨.ref [36] 0 0 (List.map Pub.d ([({ Group := base5.Group, Seg := base5.Seg, Frame := base5.Frame, Name := r_6.1, Off := r_7.1 } : Pub)] : List Pub)).length 5, [([36], some (.arr (List.map Pub.d ([({ Group := base5.Group, Seg := base5.Seg, Frame := base5.Frame, Name := r_6.1, Off := r_7.1 } : Pub)] : List Pub)) 0 false))]⟩] (by kernel_rfl) ?_
    obtain ⟨z_1, hz_1, h⟩ := bind_s h
    refine RunAt.cut (some 37) (.append 5 48 false) [] none [.ref [6] v_6 0 (List.map Pub.d out6).length 5, .ref [36] 0 0 (List.map Pub.d ([({ Group := base5.Group, Seg := base5.Seg, Frame := base5.Frame, Name := r_6.1, Off := r_7.1 } : Pub)] : List Pub)).length 5] (.ref [6] (v_6 + 1) 0 (List.map Pub.d z_1).length 5) [([36], some (.arr (List.map Pub.d ([({ Group := base5.Group, Seg := base5.Seg, Frame := base5.Frame, Name := r_6.1, Off := r_7.1 } : Pub)] : List Pub)) 0 true)), ([6], some (.arr (List.map Pub.d z_1) (v_6 + 1) false))] (by kernel_rfl) (by kernel_rfl) (by kernel_rfl) (cut_appR (e := Pub.d) (l := out6) (fz := false) (ws := [([36], some (.arr (List.map Pub.d ([({ Group := base5.Group, Seg := base5.Seg, Frame := base5.Frame, Name := r_6.1, Off := r_7.1 } : Pub)] : List Pub)) 0 true))]) (ap_ref (e := Pub.d) (l := ([({ Group := base5.Group, Seg := base5.Seg, Frame := base5.Frame, Name := r_6.1, Off := r_7.1 } : Pub)] : List Pub)) (fz := false) (by kernel_rfl) (by kernel_rfl) rfl) (fun _ => rfl) hz_1 (by kernel_rfl) (by kernel_rfl) rfl) ?_
    refine RunAt.chunk 1 [⟨.ref [6] (v_6 + 1) 0 (List.map Pub.d z_1).length 5, []⟩] (by kernel_rfl) ?_
    refine RunAt.done (by kernel_rfl) ?_
    refine kB_nrm ?_
    obtain rfl := Option.some.inj h
    exact ⟨rfl, (v_6 + 1), (Canon.nil (by kernel_rfl))⟩
  | false =>
    replace h := ite_f hb_2 h
    refine Runs.cond_f (by kernel_rfl) ?_
    refine Runs.exit ?_
    refine kS_exit ?_
    obtain rfl := Option.some.inj h
    exact ⟨nofun, rfl, v_6, (Canon.nil (by kernel_rfl))⟩
theorem pubs_Given_j12_ok (b_ : (List Int)) (base5 : Pub) (b_10 : Source) (r : ((List Pub) × Int)) (h : pubs_Given_j12 base5 b_10 = some r) : Runs L F40b12 (pubs_Given_h12 base5 b_10) (pubs_Given_Q b_ r) := by
  unfold pubs_Given_j12 at h
  refine Runs.seq ?_
  refine Runs.ops ?_
  refine RunAt.chunk 1 [⟨.nils, []⟩] (by kernel_rfl) ?_
  refine RunAt.done (by kernel_rfl) ?_
  refine kS_nrm ?_
  refine Runs.canon (pubs_Given_h14 base5 b_10 ([] : List Pub) 0) (Canon.cons (own_nil Pub.d (v := 0) (by kernel_rfl) (by kernel_rfl)) (Canon.nil (by kernel_rfl))) ?_
  refine Runs.seq ?_
  refine Runs.block ?_
  obtain ⟨e_1, he_1, h⟩ := bind_s h
  refine Runs.loop (fun x : (Source × (List Pub)) => pubs_Given_l16 base5 x.1 x.2) (fun (x : (Source × (List Pub))) (g : Nat) => pubs_Given_h16 base5 x.1 x.2 g) (pubs_Given_P16 b_ base5) (fun x g r hr => pubs_Given_l16_ok b_ base5 x.1 x.2 g r hr) 0 he_1 (Canon.nil (by kernel_rfl)) ?_
  rintro ⟨o, s⟩ hp
  obtain ⟨ho, g_1, hk_1⟩ := hp
  have ho' : o = .exit 0 := ho
  subst ho'
  refine kB_hit ?_
  refine kS_nrm ?_
  refine Runs.canon _ hk_1 ?_
  refine Runs.seq ?_
  refine Runs.seq ?_
  refine Runs.ops ?_
  refine RunAt.chunk 1 [⟨.ptr [10] 0 0, []⟩] (by kernel_rfl) ?_
  obtain ⟨r_5, hr_5, h⟩ := bind_s h
  have hc_5 := index_Source_Err_L e_1.2 r_5 hr_5
  refine RunAt.cut (some 39) (.callf 28) [] none [.ptr [10] 0 0] (.d (.int .i64 r_5)) [([10], some (.cells [.d (.sl (List.map (D.int .u8) e_1.2.b)), .d (.int .i64 e_1.2.e)] 0))] (by kernel_rfl) (by kernel_rfl) (by kernel_rfl) (cut_call (call_of (ws := []) (us := [([10], some (.cells [.d (.sl (List.map (D.int .u8) e_1.2.b)), .d (.int .i64 e_1.2.e)] 0))]) (by kernel_rfl) (by kernel_rfl) hc_5 (by kernel_rfl) (by kernel_rfl))) ?_
  refine RunAt.chunk 1 [⟨.d (.int .i64 r_5), []⟩] (by kernel_rfl) ?_
  refine RunAt.done (by kernel_rfl) ?_
  refine kS_nrm ?_
  refine Runs.seq ?_
  refine Runs.ops ?_
  refine RunAt.chunk 2 [⟨.d (.int .i64 r_5), []⟩, ⟨.d (.bool (r_5 != 0)), []⟩] (by kernel_rfl) ?_
  refine RunAt.done (by kernel_rfl) ?_
  refine kS_nrm ?_
  cases hb_2 : ((r_5 != 0) : Bool) with
  | true =>
    replace h := ite_t hb_2 h
    refine Runs.cond_t (by kernel_rfl) ?_
    refine Runs.seq ?_
    refine Runs.ops ?_
    refine RunAt.chunk 3 [⟨.d (.int .i64 r_5), []⟩, ⟨.nils, []⟩, ⟨.d (.int .i64 r_5), []⟩] (by kernel_rfl) ?_
    refine RunAt.done (by kernel_rfl) ?_
    refine kS_nrm ?_
    refine Runs.seq ?_
    refine Runs.gcons (frz_nil Pub.d (by kernel_rfl)) ?_
    refine Runs.gnil ?_
    refine kS_nrm ?_
    refine Runs.ret ?_
    refine kS_ret ?_
    obtain rfl := Option.some.inj h
    exact ⟨Out.ret_ne, (by kernel_rfl)⟩
  | false =>
    replace h := ite_f hb_2 h
    refine Runs.cond_f (by kernel_rfl) ?_
    refine Runs.skip ?_
    refine kS_nrm ?_
    refine Runs.seq ?_
    refine Runs.ops ?_
    refine RunAt.chunk 3 [⟨.ref [6] g_1 0 (List.map Pub.d e_1.1).length 5, []⟩, ⟨.ref [6] g_1 0 (List.map Pub.d e_1.1).length 5, []⟩, ⟨.d (.int .i64 0), []⟩] (by kernel_rfl) ?_
    refine RunAt.done (by kernel_rfl) ?_
    refine kS_nrm ?_
    refine Runs.seq ?_
    refine Runs.gcons (frz_ref (e := Pub.d) (l := e_1.1) (id := [6]) (v := g_1) (n := 5) (fz := false) (by kernel_rfl) (by kernel_rfl) rfl) ?_
    refine Runs.gnil ?_
    refine kS_nrm ?_
    refine Runs.ret ?_
    obtain rfl := Option.some.inj h
    exact ⟨Out.ret_ne, (by kernel_rfl)⟩
theorem pubs_Given_ok (b_ : (List Int)) (r : ((List Pub) × Int)) (h : pubs_Given b_ = some r) : Runs L F40.body ⟨tmOf [.d (.sl (List.map (D.int .u8) b_))] 0, updW (fun _ => none) []⟩ (pubs_Given_Q b_ r) := by
  unfold pubs_Given at h
  refine Runs.seq ?_
  refine Runs.ops ?_
  refine RunAt.chunk 2 [⟨.nils, []⟩, ⟨.d (.int .i64 0), []⟩] (by kernel_rfl) ?_
  refine RunAt.done (by kernel_rfl) ?_
  refine kS_nrm ?_
  refine Runs.seq ?_
  refine Runs.ops ?_
  refine RunAt.chunk 1 [⟨.d (.sl (List.map (D.int .u8) b_)), []⟩] (by kernel_rfl) ?_
  obtain ⟨r_1, hr_1, h⟩ := bind_s h
  have hc_1 := index_From_L b_ r_1 hr_1
  refine RunAt.cut (some 10) (.callf 25) [] none [.d (.sl (List.map (D.int .u8) b_))] (.ptr [10] 0 0) [([10], some (.cells [.d (.sl (List.map (D.int .u8) r_1.b)), .d (.int .i64 r_1.e)] 0))] (by kernel_rfl) (by kernel_rfl) (by kernel_rfl) (cut_call (call_of (ws := []) (us := []) (by kernel_rfl) (by kernel_rfl) hc_1 (by kernel_rfl) (by kernel_rfl))) ?_
  refine RunAt.chunk 1 [⟨.ptr [10] 0 0, []⟩] (by kernel_rfl) ?_
  refine RunAt.done (by kernel_rfl) ?_
  refine kS_nrm ?_
  refine Runs.seq ?_
  refine Runs.ops ?_
  refine RunAt.chunk 1 [⟨.ptr [10] 0 0, []⟩] (by kernel_rfl) ?_
  obtain ⟨r_2, hr_2, h⟩ := bind_s h
  have hc_2 := index_Source_Index_L r_1 r_2 hr_2
  refine RunAt.cut (some 12) (.callf 31) [] none [.ptr [10] 0 0] (.d (.int .i64 r_2.1)) [([10], some (.cells [.d (.sl (List.map (D.int .u8) r_2.2.b)), .d (.int .i64 r_2.2.e)] 0))] (by kernel_rfl) (by kernel_rfl) (by kernel_rfl) (cut_call (call_of (ws := []) (us := [([10], some (.cells [.d (.sl (List.map (D.int .u8) r_2.2.b)), .d (.int .i64 r_2.2.e)] 0))]) (by kernel_rfl) (by kernel_rfl) hc_2 (by kernel_rfl) (by kernel_rfl))) ?_
  refine RunAt.chunk 1 [⟨.ptr [10] 0 0, []⟩] (by kernel_rfl) ?_
  obtain ⟨r_3, hr_3, h⟩ := bind_s h
  have hc_3 := index_Source_Index_L r_2.2 r_3 hr_3
  refine RunAt.cut (some 14) (.callf 31) [] none [.ptr [10] 0 0] (.d (.int .i64 r_3.1)) [([10], some (.cells [.d (.sl (List.map (D.int .u8) r_3.2.b)), .d (.int .i64 r_3.2.e)] 0))] (by kernel_rfl) (by kernel_rfl) (by kernel_rfl) (cut_call (call_of (ws := []) (us := [([10], some (.cells [.d (.sl (List.map (D.int .u8) r_3.2.b)), .d (.int .i64 r_3.2.e)] 0))]) (by kernel_rfl) (by kernel_rfl) hc_3 (by kernel_rfl) (by kernel_rfl))) ?_
  refine RunAt.chunk 3 [⟨.d (.agg [.int .i64 r_2.1, .int .i64 r_3.1, .int .u16 0, .str [], .int .u16 0]), []⟩, ⟨.ptr [5] 0 0, [([5], some (.cells [.d (.int .i64 0), .d (.int .i64 0), .d (.int .u16 0), .d (.str []), .d (.int .u16 0)] 0))]⟩, ⟨.tup [], [([5], some (.cells [.d (.int .i64 r_2.1), .d (.int .i64 r_3.1), .d (.int .u16 0), .d (.str []), .d (.int .u16 0)] 0))]⟩] (by kernel_rfl) ?_
  refine RunAt.done (by kernel_rfl) ?_
  refine kS_nrm ?_
  refine Runs.seq ?_
  refine Runs.seq ?_
  refine Runs.ops ?_
  refine RunAt.chunk 3 [⟨.ptr [5] 0 1, []⟩, ⟨.d (.int .i64 r_3.1), []⟩, ⟨.d (.bool (r_3.1 == 0)), []⟩] (by kernel_rfl) ?_
  refine RunAt.done (by kernel_rfl) ?_
  refine kS_nrm ?_
  cases hb_1 : ((r_3.1 == 0) : Bool) with
  | true =>
    replace h := ite_t hb_1 h
    refine Runs.cond_t (by kernel_rfl) ?_
    refine Runs.ops ?_
    refine RunAt.chunk 1 [⟨.ptr [10] 0 0, []⟩] (by kernel_rfl) ?_
    obtain ⟨r_4, hr_4, h⟩ := bind_s h
    have hc_4 := index_Source_Word_L r_3.2 r_4 hr_4
    refine RunAt.cut (some 20) (.callf 30) [] none [.ptr [10] 0 0] (.d (.int .u16 r_4.1)) [([10], some (.cells [.d (.sl (List.map (D.int .u8) r_4.2.b)), .d (.int .i64 r_4.2.e)] 0))] (by kernel_rfl) (by kernel_rfl) (by kernel_rfl) (cut_call (call_of (ws := []) (us := [([10], some (.cells [.d (.sl (List.map (D.int .u8) r_4.2.b)), .d (.int .i64 r_4.2.e)] 0))]) (by kernel_rfl) (by kernel_rfl) hc_4 (by kernel_rfl) (by kernel_rfl))) ?_
    refine RunAt.chunk 2 [⟨.ptr [5] 0 2, []⟩, ⟨.tup [], [([5], some (.cells [.d (.int .i64 r_2.1), .d (.int .i64 r_3.1), .d (.int .u16 r_4.1), .d (.str []), .d (.int .u16 0)] 0))]⟩] (by kernel_rfl) ?_
    refine RunAt.done (by kernel_rfl) ?_
    refine kS_nrm ?_
    refine Runs.canon (pubs_Given_h12 ({ Group := r_2.1, Seg := r_3.1, Frame := r_4.1, Name := [], Off := 0 } : Pub) r_4.2) (Canon.nil (by kernel_rfl)) ?_
    exact pubs_Given_j12_ok b_ ({ Group := r_2.1, Seg := r_3.1, Frame := r_4.1, Name := [], Off := 0 } : Pub) r_4.2 r h
  | false =>
    replace h := ite_f hb_1 h
    refine Runs.cond_f (by kernel_rfl) ?_
    refine Runs.skip ?_
    refine kS_nrm ?_
    refine Runs.canon (pubs_Given_h12 ({ Group := r_2.1, Seg := r_3.1, Frame := 0, Name := [], Off := 0 } : Pub) r_3.2) (Canon.nil (by kernel_rfl)) ?_
    exact pubs_Given_j12_ok b_ ({ Group := r_2.1, Seg := r_3.1, Frame := 0, Name := [], Off := 0 } : Pub) r_3.2 r h
theorem pubs_Given_L (b_ : (List Int)) (r : ((List Pub) × Int)) (h : pubs_Given b_ = some r) : L 40 [.d (.sl (List.map (D.int .u8) b_))] = some (.tup [.d (.sl (List.map Pub.d r.1)), .d (.int .i64 r.2)], [.d (.sl (List.map (D.int .u8) b_))]) := by
  obtain ⟨p, ⟨hne, hf⟩, hr⟩ := pubs_Given_ok b_ r h
  obtain ⟨k, hk⟩ := run_of (F := F40) (args := [.d (.sl (List.map (D.int .u8) b_))]) (ap := [.d (.sl (List.map (D.int .u8) b_))]) (bx0 := updW (fun _ => none) []) rfl rfl (by kernel_rfl) ⟨p, ⟨hne, hf⟩, hr⟩
  exact lim_run (k := k) rfl hk
def hansomlaw22_awake_Q  (r : Bool) (p : Out × St) : Prop := (∀ i, p.1 ≠ .exit i) ∧ finF F39 [] p.2 = some (.d (.bool r), [])
theorem hansomlaw22_awake_ok  (r : Bool) (h : hansomlaw22_awake = some r) : Runs L F39.body ⟨tmOf [] 0, updW (fun _ => none) []⟩ (hansomlaw22_awake_Q  r) := by
  unfold hansomlaw22_awake at h
  refine Runs.seq ?_
  refine Runs.ops ?_
  refine RunAt.chunk 1 [⟨.d (.bool false), []⟩] (by kernel_rfl) ?_
  refine RunAt.done (by kernel_rfl) ?_
  refine kS_nrm ?_
  refine Runs.seq ?_
  refine Runs.ops ?_
  refine RunAt.chunk 2 [⟨.d (.agg [.int .i64 1, .int .i64 2, .int .u16 0, .str ([65] : List UInt8), .int .u16 7]), []⟩, ⟨.ref [5] 0 0 (List.map Pub.d ([({ Group := 1, Seg := 2, Frame := 0, Name := ([65] : List UInt8), Off := 7 } : Pub)] : List Pub)).length 5, [([5], some (.arr (List.map Pub.d ([({ Group := 1, Seg := 2, Frame := 0, Name := ([65] : List UInt8), Off := 7 } : Pub)] : List Pub)) 0 false))]⟩] (by kernel_rfl) ?_
  obtain ⟨r_1, hr_1, h⟩ := bind_s h
  have hc_1 := pubs_Publics_L ([({ Group := 1, Seg := 2, Frame := 0, Name := ([65] : List UInt8), Off := 7 } : Pub)] : List Pub) r_1 hr_1
  refine RunAt.cut (some 6) (.callf 37) [] none [.ref [5] 0 0 (List.map Pub.d ([({ Group := 1, Seg := 2, Frame := 0, Name := ([65] : List UInt8), Off := 7 } : Pub)] : List Pub)).length 5] (.d (Record.d r_1)) [([5], some (.arr (List.map Pub.d ([({ Group := 1, Seg := 2, Frame := 0, Name := ([65] : List UInt8), Off := 7 } : Pub)] : List Pub)) 0 true))] (by kernel_rfl) (by kernel_rfl) (by kernel_rfl) (cut_call (call_of (ws := [([5], some (.arr (List.map Pub.d ([({ Group := 1, Seg := 2, Frame := 0, Name := ([65] : List UInt8), Off := 7 } : Pub)] : List Pub)) 0 true))]) (us := [([5], some (.arr (List.map Pub.d ([({ Group := 1, Seg := 2, Frame := 0, Name := ([65] : List UInt8), Off := 7 } : Pub)] : List Pub)) 0 true))]) (by kernel_rfl) (gives_cons (ws := [([5], some (.arr (List.map Pub.d ([({ Group := 1, Seg := 2, Frame := 0, Name := ([65] : List UInt8), Off := 7 } : Pub)] : List Pub)) 0 true))]) (give_ref (e := Pub.d) (l := ([({ Group := 1, Seg := 2, Frame := 0, Name := ([65] : List UInt8), Off := 7 } : Pub)] : List Pub)) (fz := false) (by kernel_rfl) (by kernel_rfl) rfl) gives_nil) hc_1 (by kernel_rfl) (by kernel_rfl))) ?_
  refine RunAt.chunk 1 [⟨.d (.sl (List.map (D.int .u8) r_1.Body)), []⟩] (by kernel_rfl) ?_
  obtain ⟨r_2, hr_2, h⟩ := bind_s h
  have hc_2 := pubs_Given_L r_1.Body r_2 hr_2
  refine RunAt.cut (some 8) (.callf 40) [] none [.d (.sl (List.map (D.int .u8) r_1.Body))] (.tup [.d (.sl (List.map Pub.d r_2.1)), .d (.int .i64 r_2.2)]) [] (by kernel_rfl) (by kernel_rfl) (by kernel_rfl) (cut_call (call_of (ws := []) (us := []) (by kernel_rfl) (by kernel_rfl) hc_2 (by kernel_rfl) (by kernel_rfl))) ?_
  refine RunAt.chunk 5 [⟨.tup [.d (.sl (List.map Pub.d r_2.1)), .d (.int .i64 r_2.2)], []⟩, ⟨.d (.sl (List.map Pub.d r_2.1)), []⟩, ⟨.d (.int .i64 r_2.2), []⟩, ⟨.d (.sl (List.map Pub.d r_2.1)), []⟩, ⟨.d (.int .i64 r_2.2), []⟩] (by kernel_rfl) ?_
  refine RunAt.done (by kernel_rfl) ?_
  refine kS_nrm ?_
  refine Runs.seq ?_
  refine Runs.ops ?_
  refine RunAt.chunk 3 [⟨.d (.int .i64 r_2.2), []⟩, ⟨.d (.bool (r_2.2 == 0)), []⟩, ⟨.d (.bool (r_2.2 == 0)), []⟩] (by kernel_rfl) ?_
  cases hb_1 : ((r_2.2 == 0) : Bool) with
  | true =>
    replace h := ite_t hb_1 h
    refine RunAt.chunk 1 [⟨.d (.sl (List.map Pub.d r_2.1)), []⟩] (by kernel_rfl) ?_
    refine RunAt.cut (some 15) .lenL [] none [.d (.sl (List.map Pub.d r_2.1))] (.d (.int .i64 (r_2.1.length : Int))) [] (by kernel_rfl) (by kernel_rfl) (by kernel_rfl) (cut_len _) ?_
    refine RunAt.chunk 3 [⟨.d (.bool ((r_2.1.length : Int) == 1)), []⟩, ⟨.d (.bool ((r_2.1.length : Int) == 1)), []⟩, ⟨.d (.bool ((r_2.1.length : Int) == 1)), []⟩] (by kernel_rfl) ?_
    cases hb_2 : (((r_2.1.length : Int) == 1) : Bool) with
    | true =>
      replace h := ite_t hb_2 h
      refine RunAt.chunk 1 [⟨.d (.sl (List.map Pub.d r_2.1)), []⟩] (by kernel_rfl) ?_
      obtain ⟨z_1, hz_1, h⟩ := bind_s h
      refine RunAt.cut (some 20) (.iaddrS 5) [] none [.d (.sl (List.map Pub.d r_2.1)), .d (.int .i64 0)] (.elt (Pub.d z_1) 0) [] (by kernel_rfl) (by kernel_rfl) (by kernel_rfl) (cut_at hz_1 (fun _ => rfl)) ?_
      refine RunAt.chunk 5 [⟨.elt (Pub.d z_1) 3, []⟩, ⟨.d (.str z_1.Name), []⟩, ⟨.d (.bool (z_1.Name == ([65] : List UInt8))), []⟩, ⟨.d (.bool (z_1.Name == ([65] : List UInt8))), []⟩, ⟨.d (.bool (z_1.Name == ([65] : List UInt8))), []⟩] (by kernel_rfl) ?_
      cases hb_3 : ((z_1.Name == ([65] : List UInt8)) : Bool) with
      | true =>
        replace h := ite_t hb_3 h
        refine RunAt.chunk 1 [⟨.d (.sl (List.map Pub.d r_2.1)), []⟩] (by kernel_rfl) ?_
        obtain ⟨z_2, hz_2, h⟩ := bind_s h
        refine RunAt.cut (some 27) (.iaddrS 5) [] none [.d (.sl (List.map Pub.d r_2.1)), .d (.int .i64 0)] (.elt (Pub.d z_2) 0) [] (by kernel_rfl) (by kernel_rfl) (by kernel_rfl) (cut_at hz_2 (fun _ => rfl)) ?_
        refine RunAt.chunk 5 [⟨.elt (Pub.d z_2) 4, []⟩, ⟨.d (.int .u16 z_2.Off), []⟩, ⟨.d (.bool (z_2.Off == 7)), []⟩, ⟨.d (.bool (z_2.Off == 7)), []⟩, ⟨.d (.bool (z_2.Off == 7)), []⟩] (by kernel_rfl) ?_
        cases hb_4 : ((z_2.Off == 7) : Bool) with
        | true =>
          replace h := ite_t hb_4 h
          refine RunAt.chunk 1 [⟨.d (.sl (List.map Pub.d r_2.1)), []⟩] (by kernel_rfl) ?_
          obtain ⟨z_3, hz_3, h⟩ := bind_s h
          refine RunAt.cut (some 34) (.iaddrS 5) [] none [.d (.sl (List.map Pub.d r_2.1)), .d (.int .i64 0)] (.elt (Pub.d z_3) 0) [] (by kernel_rfl) (by kernel_rfl) (by kernel_rfl) (cut_at hz_3 (fun _ => rfl)) ?_
          refine RunAt.chunk 5 [⟨.elt (Pub.d z_3) 1, []⟩, ⟨.d (.int .i64 z_3.Seg), []⟩, ⟨.d (.bool (z_3.Seg == 2)), []⟩, ⟨.d (.bool (z_3.Seg == 2)), []⟩, ⟨.d (.bool (z_3.Seg == 2)), []⟩] (by kernel_rfl) ?_
          refine RunAt.done (by kernel_rfl) ?_
          refine kS_nrm ?_
          refine Runs.ret ?_
          obtain rfl := Option.some.inj h
          exact ⟨Out.ret_ne, (by kernel_rfl)⟩
        | false =>
          replace h := ite_f hb_4 h
          refine RunAt.chunk 7 [⟨.tup [], []⟩, ⟨.tup [], []⟩, ⟨.tup [], []⟩, ⟨.tup [], []⟩, ⟨.tup [], []⟩, ⟨.d (.bool false), []⟩, ⟨.d (.bool false), []⟩] (by kernel_rfl) ?_
          refine RunAt.done (by kernel_rfl) ?_
          refine kS_nrm ?_
          refine Runs.ret ?_
          obtain rfl := Option.some.inj h
          exact ⟨Out.ret_ne, (by kernel_rfl)⟩
      | false =>
        replace h := ite_f hb_3 h
        refine RunAt.chunk 14 [⟨.tup [], []⟩, ⟨.tup [], []⟩, ⟨.tup [], []⟩, ⟨.tup [], []⟩, ⟨.tup [], []⟩, ⟨.d (.bool false), []⟩, ⟨.d (.bool false), []⟩, ⟨.tup [], []⟩, ⟨.tup [], []⟩, ⟨.tup [], []⟩, ⟨.tup [], []⟩, ⟨.tup [], []⟩, ⟨.d (.bool false), []⟩, ⟨.d (.bool false), []⟩] (by kernel_rfl) ?_
        refine RunAt.done (by kernel_rfl) ?_
        refine kS_nrm ?_
        refine Runs.ret ?_
        obtain rfl := Option.some.inj h
        exact ⟨Out.ret_ne, (by kernel_rfl)⟩
    | false =>
      replace h := ite_f hb_2 h
      refine RunAt.chunk 21 [⟨.tup [], []⟩, ⟨.tup [], []⟩, ⟨.tup [], []⟩, ⟨.tup [], []⟩, ⟨.tup [], []⟩, ⟨.d (.bool false), []⟩, ⟨.d (.bool false), []⟩, ⟨.tup [], []⟩, ⟨.tup [], []⟩, ⟨.tup [], []⟩, ⟨.tup [], []⟩, ⟨.tup [], []⟩, ⟨.d (.bool false), []⟩, ⟨.d (.bool false), []⟩, ⟨.tup [], []⟩, ⟨.tup [], []⟩, ⟨.tup [], []⟩, ⟨.tup [], []⟩, ⟨.tup [], []⟩, ⟨.d (.bool false), []⟩, ⟨.d (.bool false), []⟩] (by kernel_rfl) ?_
      refine RunAt.done (by kernel_rfl) ?_
      refine kS_nrm ?_
      refine Runs.ret ?_
      obtain rfl := Option.some.inj h
      exact ⟨Out.ret_ne, (by kernel_rfl)⟩
  | false =>
    replace h := ite_f hb_1 h
    refine RunAt.chunk 26 [⟨.tup [], []⟩, ⟨.tup [], []⟩, ⟨.tup [], []⟩, ⟨.d (.bool false), []⟩, ⟨.d (.bool false), []⟩, ⟨.tup [], []⟩, ⟨.tup [], []⟩, ⟨.tup [], []⟩, ⟨.tup [], []⟩, ⟨.tup [], []⟩, ⟨.d (.bool false), []⟩, ⟨.d (.bool false), []⟩, ⟨.tup [], []⟩, ⟨.tup [], []⟩, ⟨.tup [], []⟩, ⟨.tup [], []⟩, ⟨.tup [], []⟩, ⟨.d (.bool false), []⟩, ⟨.d (.bool false), []⟩, ⟨.tup [], []⟩, ⟨.tup [], []⟩, ⟨.tup [], []⟩, ⟨.tup [], []⟩, ⟨.tup [], []⟩, ⟨.d (.bool false), []⟩, ⟨.d (.bool false), []⟩] (by kernel_rfl) ?_
    refine RunAt.done (by kernel_rfl) ?_
    refine kS_nrm ?_
    refine Runs.ret ?_
    obtain rfl := Option.some.inj h
    exact ⟨Out.ret_ne, (by kernel_rfl)⟩
theorem hansomlaw22_awake_L  (r : Bool) (h : hansomlaw22_awake = some r) : L 39 [] = some (.d (.bool r), []) := by
  obtain ⟨p, ⟨hne, hf⟩, hr⟩ := hansomlaw22_awake_ok  r h
  obtain ⟨k, hk⟩ := run_of (F := F39) (args := []) (ap := []) (bx0 := updW (fun _ => none) []) rfl rfl (by kernel_rfl) ⟨p, ⟨hne, hf⟩, hr⟩
  exact lim_run (k := k) rfl hk
def hansomlaw22_PubsTaken_h8 (b_14 : (List (List UInt8))) (l0 : (List (List UInt8))) (cut1 : Int) (b6 : (List UInt8)) (i7 : Int) (v_14 : Nat) : St := ⟨tab [(0, .d (.sl (List.map D.str l0))), (1, .d (.int .i64 cut1)), (5, .ref [14] v_14 0 (List.map D.str b_14).length 1), (6, .d (.str b6)), (7, .d (.int .i64 i7))], tabB [([14], some (.arr (List.map D.str b_14) v_14 false))]⟩
def hansomlaw22_PubsTaken_h21 (b_14 : (List (List UInt8))) (cut1 : Int) (b6 : (List UInt8)) (v_14 : Nat) : St := ⟨tab [(1, .d (.int .i64 cut1)), (5, .ref [14] v_14 0 (List.map D.str b_14).length 1), (6, .d (.str b6))], tabB [([14], some (.arr (List.map D.str b_14) v_14 false))]⟩
def hansomlaw22_PubsTaken_h37 (b_14 : (List (List UInt8))) (cut1 : Int) (b6 : (List UInt8)) (y9 : (List Ext)) (i11 : Int) (v_14 : Nat) (f_14 : Bool) : St := ⟨tab [(1, .d (.int .i64 cut1)), (5, .ref [14] v_14 0 (List.map D.str b_14).length 1), (6, .d (.str b6)), (9, .d (.sl (List.map Ext.d y9))), (11, .d (.int .i64 i11))], tabB [([14], some (.arr (List.map D.str b_14) v_14 f_14))]⟩
def hansomlaw22_PubsTaken_h54 (b_14 : (List (List UInt8))) (cut1 : Int) (b6 : (List UInt8)) (v_14 : Nat) (f_14 : Bool) : St := ⟨tab [(1, .d (.int .i64 cut1)), (5, .ref [14] v_14 0 (List.map D.str b_14).length 1), (6, .d (.str b6))], tabB [([14], some (.arr (List.map D.str b_14) v_14 f_14))]⟩
def hansomlaw22_PubsTaken_Q (l_ : (List (List UInt8))) (cut_ : Int) (r : Bool) (p : Out × St) : Prop := (∀ i, p.1 ≠ .exit i) ∧ finF F11 [.d (.sl (List.map D.str l_)), .d (.int .i64 cut_)] p.2 = some (.d (.bool r), [.d (.sl (List.map D.str l_)), .d (.int .i64 cut_)])
def hansomlaw22_PubsTaken_P8 (l_ : (List (List UInt8))) (cut_ : Int) (l0 : (List (List UInt8))) (cut1 : Int) (e : ((List (List UInt8)) × (List UInt8))) (p : Out × St) : Prop := p.1 = .exit 0 ∧ ∃ g : Nat, Canon [] [1, 5, 6] [[14]] p.2 (hansomlaw22_PubsTaken_h21 e.1 cut1 e.2 g)
def hansomlaw22_PubsTaken_P37 (l_ : (List (List UInt8))) (cut_ : Int) (b_14 : (List (List UInt8))) (cut1 : Int) (b6 : (List UInt8)) (y9 : (List Ext)) (e : (Bool ⊕ Unit)) (p : Out × St) : Prop := match e with
  | .inl x => p.1 = .ret ∧ finF F11 [.d (.sl (List.map D.str l_)), .d (.int .i64 cut_)] p.2 = some (.d (.bool x), [.d (.sl (List.map D.str l_)), .d (.int .i64 cut_)])
  | .inr x => p.1 = .exit 2 ∧ ∃ g : (Nat × Bool), Canon [] [1, 5, 6] [[14]] p.2 (hansomlaw22_PubsTaken_h54 b_14 cut1 b6 g.1 g.2)
theorem hansomlaw22_PubsTaken_l8_ok (l_ : (List (List UInt8))) (cut_ : Int) (b_14 : (List (List UInt8))) (l0 : (List (List UInt8))) (cut1 : Int) (b6 : (List UInt8)) (i7 : Int) (v_14 : Nat) (r : (Lp ((List (List UInt8)) × (List UInt8) × Int) ((List (List UInt8)) × (List UInt8)))) (h : hansomlaw22_PubsTaken_l8 b_14 l0 cut1 b6 i7 = some r) : Runs L F11l8 (hansomlaw22_PubsTaken_h8 b_14 l0 cut1 b6 i7 v_14) (LQ [] [0, 1, 5, 6, 7] [[14]] (fun (x : ((List (List UInt8)) × (List UInt8) × Int)) (g : Nat) => hansomlaw22_PubsTaken_h8 x.1 l0 cut1 x.2.1 x.2.2 g) (hansomlaw22_PubsTaken_P8 l_ cut_ l0 cut1) r) := by
  unfold hansomlaw22_PubsTaken_l8 at h
  refine Runs.seq ?_
  refine Runs.seq ?_
  refine Runs.ops ?_
  refine RunAt.chunk 2 [⟨.d (.int .i64 i7), []⟩, ⟨.d (.sl (List.map D.str l0)), []⟩] (by kernel_rfl) ?_
  refine RunAt.cut (some 17) .lenL [] none [.d (.sl (List.map D.str l0))] (.d (.int .i64 (l0.length : Int))) [] (by kernel_rfl) (by kernel_rfl) (by kernel_rfl) (cut_len _) ?_
  refine RunAt.chunk 2 [⟨.d (.bool (decide (i7 < (l0.length : Int)))), []⟩, ⟨.d (.bool (decide (i7 < (l0.length : Int)))), []⟩] (by kernel_rfl) ?_
  cases hb_1 : ((decide (i7 < (l0.length : Int))) : Bool) with
  | true =>
    replace h := ite_t hb_1 h
    refine RunAt.chunk 3 [⟨.d (.int .i64 i7), []⟩, ⟨.d (.bool (decide (i7 < 10))), []⟩, ⟨.d (.bool (decide (i7 < 10))), []⟩] (by kernel_rfl) ?_
    refine RunAt.done (by kernel_rfl) ?_
    refine kS_nrm ?_
    cases hb_2 : ((decide (i7 < 10)) : Bool) with
    | true =>
      replace h := ite_t hb_2 h
      refine Runs.cond_t (by kernel_rfl) ?_
      refine Runs.skip ?_
      refine kS_nrm ?_
      refine Runs.seq ?_
      refine Runs.block ?_
      refine Runs.seq ?_
      refine Runs.ops ?_
      refine RunAt.chunk 3 [⟨.ref [14] v_14 0 (List.map D.str b_14).length 1, []⟩, ⟨.d (.sl (List.map D.str l0)), []⟩, ⟨.d (.int .i64 i7), []⟩] (by kernel_rfl) ?_
      obtain ⟨z_1, hz_1, h⟩ := bind_s h
      refine RunAt.cut (some 28) (.iaddrS 1) [] none [.d (.sl (List.map D.str l0)), .d (.int .i64 i7)] (.elt (.str z_1) 0) [] (by kernel_rfl) (by kernel_rfl) (by kernel_rfl) (cut_at hz_1 (fun _ => rfl)) ?_
      refine RunAt.chunk 3 [⟨.d (.str z_1), []⟩, ⟨.d (.sl (List.map D.str l0)), []⟩, ⟨.d (.int .i64 i7), []⟩] (by kernel_rfl) ?_
      obtain ⟨z_2, hz_2, h⟩ := bind_s h
      refine RunAt.cut (some 32) (.iaddrS 1) [] none [.d (.sl (List.map D.str l0)), .d (.int .i64 i7)] (.elt (.str z_2) 0) [] (by kernel_rfl) (by kernel_rfl) (by kernel_rfl) (cut_at hz_2 (fun _ => rfl)) ?_
      refine RunAt.chunk 1 [⟨.d (.str z_2), []⟩] (by kernel_rfl) ?_
      refine RunAt.cut (some 34) .lenS [] none [.d (.str z_2)] (.d (.int .i64 (z_2.length : Int))) [] (by kernel_rfl) (by kernel_rfl) (by kernel_rfl) (cut_lenS _) ?_
      refine RunAt.chunk 1 [⟨.d (.int .i64 (mnI (z_2.length : Int) 40)), []⟩] (by kernel_rfl) ?_
      obtain ⟨z_3, hz_3, h⟩ := bind_s h
      refine RunAt.cut (some 36) (.substr false true) [] none [.d (.str z_1), .d (.int .i64 (mnI (z_2.length : Int) 40))] (.d (.str z_3)) [] (by kernel_rfl) (by kernel_rfl) (by kernel_rfl) (cut_strFT hz_3) ?_
      refine RunAt.chunk 1 [⟨.ref [37] 0 0 (List.map D.str ([z_3] : List (List UInt8))).length 1, [([37], some (.arr (List.map D.str ([z_3] : List (List UInt8))) 0 false))]⟩] (by kernel_rfl) ?_
      obtain ⟨z_4, hz_4, h⟩ := bind_s h
      refine RunAt.cut (some 38) (.append 1 16 false) [] none [.ref [14] v_14 0 (List.map D.str b_14).length 1, .ref [37] 0 0 (List.map D.str ([z_3] : List (List UInt8))).length 1] (.ref [14] (v_14 + 1) 0 (List.map D.str z_4).length 1) [([37], some (.arr (List.map D.str ([z_3] : List (List UInt8))) 0 true)), ([14], some (.arr (List.map D.str z_4) (v_14 + 1) false))] (by kernel_rfl) (by kernel_rfl) (by kernel_rfl) (cut_appR (e := D.str) (l := b_14) (fz := false) (ws := [([37], some (.arr (List.map D.str ([z_3] : List (List UInt8))) 0 true))]) (ap_ref (e := D.str) (l := ([z_3] : List (List UInt8))) (fz := false) (by kernel_rfl) (by kernel_rfl) rfl) (fun _ => rfl) hz_4 (by kernel_rfl) (by kernel_rfl) rfl) ?_
      refine RunAt.chunk 1 [⟨.ref [14] (v_14 + 1) 0 (List.map D.str z_4).length 1, []⟩] (by kernel_rfl) ?_
      refine RunAt.done (by kernel_rfl) ?_
      refine kS_nrm ?_
      refine Runs.ops ?_
      refine RunAt.chunk 3 [⟨.d (.str b6), []⟩, ⟨.ref [14] (v_14 + 1) 0 (List.map D.str z_4).length 1, []⟩, ⟨.d (.int .i64 i7), []⟩] (by kernel_rfl) ?_
      obtain ⟨z_5, hz_5, h⟩ := bind_s h
      refine RunAt.cut (some 42) (.iaddrS 1) [] none [.ref [14] (v_14 + 1) 0 (List.map D.str z_4).length 1, .d (.int .i64 i7)] (.eref [14] (v_14 + 1) (0 + (i7).toNat) 0) [] (by kernel_rfl) (by kernel_rfl) (by kernel_rfl) (cut_atR (e := D.str) (l := z_4) hz_5 rfl) ?_
      refine RunAt.cut (some 43) (.load none) [] none [.eref [14] (v_14 + 1) (0 + (i7).toNat) 0] (.d (.str z_5)) [] (by kernel_rfl) (by kernel_rfl) (by kernel_rfl) (cut_loadR (e := D.str) (l := z_4) (fz := false) (y := z_5) (by kernel_rfl) hz_5 (by kernel_rfl) (by kernel_rfl)) ?_
      obtain ⟨r_1, hr_1, h⟩ := bind_s h
      have hc_1 := hansomref18_Name_L z_5 r_1 hr_1
      refine RunAt.cut (some 44) (.callf 19) [] none [.d (.str z_5)] (.d (.str r_1)) [] (by kernel_rfl) (by kernel_rfl) (by kernel_rfl) (cut_call (call_of (ws := []) (us := []) (by kernel_rfl) (by kernel_rfl) hc_1 (by kernel_rfl) (by kernel_rfl))) ?_
      obtain ⟨z_6, hz_6, h⟩ := bind_s h
      refine RunAt.cut (some 45) (.bin .add) [] none [.d (.str r_1), .d (.str ([0] : List UInt8))] (.d (.str z_6)) [] (by kernel_rfl) (by kernel_rfl) (by kernel_rfl) (cut_cat hz_6) ?_
      obtain ⟨z_7, hz_7, h⟩ := bind_s h
      refine RunAt.cut (some 46) (.bin .add) [] none [.d (.str b6), .d (.str z_6)] (.d (.str z_7)) [] (by kernel_rfl) (by kernel_rfl) (by kernel_rfl) (cut_cat hz_7) ?_
      refine RunAt.chunk 1 [⟨.d (.str z_7), []⟩] (by kernel_rfl) ?_
      refine RunAt.done (by kernel_rfl) ?_
      refine kB_nrm ?_
      refine kS_nrm ?_
      refine Runs.ops ?_
      refine RunAt.chunk 3 [⟨.d (.int .i64 i7), []⟩, ⟨.d (.int .i64 (IntKind.wrap .i64 (i7 + 1))), []⟩, ⟨.d (.int .i64 (IntKind.wrap .i64 (i7 + 1))), []⟩] (by kernel_rfl) ?_
      refine RunAt.done (by kernel_rfl) ?_
      obtain rfl := Option.some.inj h
      exact ⟨rfl, (v_14 + 1), (Canon.nil (by kernel_rfl))⟩
    | false =>
      replace h := ite_f hb_2 h
      refine Runs.cond_f (by kernel_rfl) ?_
      refine Runs.exit ?_
      refine kS_exit ?_
      obtain rfl := Option.some.inj h
      exact ⟨nofun, rfl, v_14, (Canon.nil (by kernel_rfl))⟩
  | false =>
    replace h := ite_f hb_1 h
    refine RunAt.chunk 3 [⟨.tup [], []⟩, ⟨.tup [], []⟩, ⟨.d (.bool false), []⟩] (by kernel_rfl) ?_
    refine RunAt.done (by kernel_rfl) ?_
    refine kS_nrm ?_
    refine Runs.cond_f (by kernel_rfl) ?_
    refine Runs.exit ?_
    refine kS_exit ?_
    obtain rfl := Option.some.inj h
    exact ⟨nofun, rfl, v_14, (Canon.nil (by kernel_rfl))⟩
theorem hansomlaw22_PubsTaken_l37_ok (l_ : (List (List UInt8))) (cut_ : Int) (b_14 : (List (List UInt8))) (cut1 : Int) (b6 : (List UInt8)) (y9 : (List Ext)) (i11 : Int) (v_14 : Nat) (f_14 : Bool) (r : (Lp Int (Bool ⊕ Unit))) (h : hansomlaw22_PubsTaken_l37 b_14 cut1 b6 y9 i11 = some r) : Runs L F11l37 (hansomlaw22_PubsTaken_h37 b_14 cut1 b6 y9 i11 v_14 f_14) (LQ [] [1, 5, 6, 9, 11] [[14]] (fun (x : Int) (g : (Nat × Bool)) => hansomlaw22_PubsTaken_h37 b_14 cut1 b6 y9 x g.1 g.2) (hansomlaw22_PubsTaken_P37 l_ cut_ b_14 cut1 b6 y9) r) := by
  unfold hansomlaw22_PubsTaken_l37 at h
  refine Runs.seq ?_
  refine Runs.seq ?_
  refine Runs.ops ?_
  refine RunAt.chunk 2 [⟨.d (.int .i64 i11), []⟩, ⟨.ref [14] v_14 0 (List.map D.str b_14).length 1, []⟩] (by kernel_rfl) ?_
  refine RunAt.cut (some 78) .lenL [] none [.ref [14] v_14 0 (List.map D.str b_14).length 1] (.d (.int .i64 (b_14.length : Int))) [] (by kernel_rfl) (by kernel_rfl) (by kernel_rfl) (cut_lenR (e := D.str) b_14 rfl) ?_
  refine RunAt.chunk 1 [⟨.d (.bool (decide (i11 < (b_14.length : Int)))), []⟩] (by kernel_rfl) ?_
  refine RunAt.done (by kernel_rfl) ?_
  refine kS_nrm ?_
  cases hb_5 : ((decide (i11 < (b_14.length : Int))) : Bool) with
  | true =>
    replace h := ite_t hb_5 h
    refine Runs.cond_t (by kernel_rfl) ?_
    refine Runs.skip ?_
    refine kS_nrm ?_
    refine Runs.seq ?_
    refine Runs.block ?_
    refine Runs.seq ?_
    refine Runs.ops ?_
    refine RunAt.chunk 2 [⟨.d (.sl (List.map Ext.d y9)), []⟩, ⟨.d (.int .i64 i11), []⟩] (by kernel_rfl) ?_
    obtain ⟨z_1, hz_1, h⟩ := bind_s h
    refine RunAt.cut (some 84) (.iaddrS 3) [] none [.d (.sl (List.map Ext.d y9)), .d (.int .i64 i11)] (.elt (Ext.d z_1) 0) [] (by kernel_rfl) (by kernel_rfl) (by kernel_rfl) (cut_at hz_1 (fun _ => rfl)) ?_
    refine RunAt.chunk 3 [⟨.d (Ext.d z_1), []⟩, ⟨.ref [14] v_14 0 (List.map D.str b_14).length 1, []⟩, ⟨.d (.int .i64 i11), []⟩] (by kernel_rfl) ?_
    obtain ⟨z_2, hz_2, h⟩ := bind_s h
    refine RunAt.cut (some 88) (.iaddrS 1) [] none [.ref [14] v_14 0 (List.map D.str b_14).length 1, .d (.int .i64 i11)] (.eref [14] v_14 (0 + (i11).toNat) 0) [] (by kernel_rfl) (by kernel_rfl) (by kernel_rfl) (cut_atR (e := D.str) (l := b_14) hz_2 rfl) ?_
    refine RunAt.cut (some 89) (.load none) [] none [.eref [14] v_14 (0 + (i11).toNat) 0] (.d (.str z_2)) [] (by kernel_rfl) (by kernel_rfl) (by kernel_rfl) (cut_loadR (e := D.str) (l := b_14) (fz := f_14) (y := z_2) (by kernel_rfl) hz_2 (by kernel_rfl) (by kernel_rfl)) ?_
    refine RunAt.chunk 2 [⟨.d (.agg [.str z_2, .int .i64 0, .int .u32 0]), []⟩, ⟨.d (.bool (!(z_1.Name == z_2 && (z_1.Com == 0 && (z_1.Len == 0 && true))))), []⟩] (by kernel_rfl) ?_
    refine RunAt.done (by kernel_rfl) ?_
    refine kS_nrm ?_
    cases hb_6 : ((!(z_1.Name == z_2 && (z_1.Com == 0 && (z_1.Len == 0 && true)))) : Bool) with
    | true =>
      replace h := ite_t hb_6 h
      refine Runs.cond_t (by kernel_rfl) ?_
      refine Runs.seq ?_
      refine Runs.ops ?_
      refine RunAt.chunk 1 [⟨.d (.bool false), []⟩] (by kernel_rfl) ?_
      refine RunAt.done (by kernel_rfl) ?_
      refine kS_nrm ?_
      refine Runs.ret ?_
      refine kB_ret ?_
      refine kS_ret ?_
      obtain rfl := Option.some.inj h
      exact ⟨nofun, rfl, (by kernel_rfl)⟩
    | false =>
      replace h := ite_f hb_6 h
      refine Runs.cond_f (by kernel_rfl) ?_
      refine Runs.skip ?_
      refine kB_nrm ?_
      refine kS_nrm ?_
      refine Runs.ops ?_
      refine RunAt.chunk 3 [⟨.d (.int .i64 i11), []⟩, ⟨.d (.int .i64 (IntKind.wrap .i64 (i11 + 1))), []⟩, ⟨.d (.int .i64 (IntKind.wrap .i64 (i11 + 1))), []⟩] (by kernel_rfl) ?_
      refine RunAt.done (by kernel_rfl) ?_
      obtain rfl := Option.some.inj h
      exact ⟨rfl, (v_14, f_14), (Canon.nil (by kernel_rfl))⟩
  | false =>
    replace h := ite_f hb_5 h
    refine Runs.cond_f (by kernel_rfl) ?_
    refine Runs.exit ?_
    refine kS_exit ?_
    obtain rfl := Option.some.inj h
    exact ⟨nofun, rfl, (v_14, f_14), (Canon.nil (by kernel_rfl))⟩
theorem hansomlaw22_PubsTaken_ok (l_ : (List (List UInt8))) (cut_ : Int) (r : Bool) (h : hansomlaw22_PubsTaken l_ cut_ = some r) : Runs L F11.body ⟨tmOf [.d (.sl (List.map D.str l_)), .d (.int .i64 cut_)] 0, updW (fun _ => none) []⟩ (hansomlaw22_PubsTaken_Q l_ cut_ r) := by
  unfold hansomlaw22_PubsTaken at h
  refine Runs.seq ?_
  refine Runs.ops ?_
  refine RunAt.chunk 1 [⟨.d (.bool false), []⟩] (by kernel_rfl) ?_
  refine RunAt.done (by kernel_rfl) ?_
  refine kS_nrm ?_
  refine Runs.seq ?_
  refine Runs.ops ?_
  refine RunAt.chunk 3 [⟨.ref [14] 0 0 (List.map D.str ([] : List (List UInt8))).length 1, [([14], some (.arr (List.map D.str ([] : List (List UInt8))) 0 false))]⟩, ⟨.ref [14] 0 0 (List.map D.str ([] : List (List UInt8))).length 1, []⟩, ⟨.d (.str ([] : List UInt8)), []⟩] (by kernel_rfl) ?_
  refine RunAt.done (by kernel_rfl) ?_
  refine kS_nrm ?_
  refine Runs.seq ?_
  refine Runs.seq ?_
  refine Runs.ops ?_
  refine RunAt.chunk 1 [⟨.d (.int .i64 0), []⟩] (by kernel_rfl) ?_
  refine RunAt.done (by kernel_rfl) ?_
  refine kS_nrm ?_
  refine Runs.block ?_
  obtain ⟨e_1, he_1, h⟩ := bind_s h
  refine Runs.loop (fun x : ((List (List UInt8)) × (List UInt8) × Int) => hansomlaw22_PubsTaken_l8 x.1 l_ cut_ x.2.1 x.2.2) (fun (x : ((List (List UInt8)) × (List UInt8) × Int)) (g : Nat) => hansomlaw22_PubsTaken_h8 x.1 l_ cut_ x.2.1 x.2.2 g) (hansomlaw22_PubsTaken_P8 l_ cut_ l_ cut_) (fun x g r hr => hansomlaw22_PubsTaken_l8_ok l_ cut_ x.1 l_ cut_ x.2.1 x.2.2 g r hr) 0 he_1 (Canon.nil (by kernel_rfl)) ?_
  rintro ⟨o, s⟩ hp
  obtain ⟨ho, g_1, hk_1⟩ := hp
  have ho' : o = .exit 0 := ho
  subst ho'
  refine kB_hit ?_
  refine kS_nrm ?_
  refine Runs.canon _ hk_1 ?_
  refine Runs.seq ?_
  refine Runs.ops ?_
  refine RunAt.chunk 1 [⟨.ref [14] g_1 0 (List.map D.str e_1.1).length 1, []⟩] (by kernel_rfl) ?_
  obtain ⟨r_1, hr_1, h⟩ := bind_s h
  have hc_1 := pubs_Externals_L e_1.1 r_1 hr_1
  refine RunAt.cut (some 48) (.callf 54) [] none [.ref [14] g_1 0 (List.map D.str e_1.1).length 1] (.d (Record.d r_1)) [([14], some (.arr (List.map D.str e_1.1) g_1 true))] (by kernel_rfl) (by kernel_rfl) (by kernel_rfl) (cut_call (call_of (ws := [([14], some (.arr (List.map D.str e_1.1) g_1 true))]) (us := [([14], some (.arr (List.map D.str e_1.1) g_1 true))]) (by kernel_rfl) (gives_cons (ws := [([14], some (.arr (List.map D.str e_1.1) g_1 true))]) (give_ref (e := D.str) (l := e_1.1) (fz := false) (by kernel_rfl) (by kernel_rfl) rfl) gives_nil) hc_1 (by kernel_rfl) (by kernel_rfl))) ?_
  refine RunAt.chunk 2 [⟨.ptr [8] 0 0, [([8], some (.cells [.d (.int .u8 0), .nils] 0))]⟩, ⟨.tup [], [([8], some (.cells [.d (.int .u8 r_1.Kind), .d (.sl (List.map (D.int .u8) r_1.Body))] 0))]⟩] (by kernel_rfl) ?_
  refine RunAt.done (by kernel_rfl) ?_
  refine kS_nrm ?_
  refine Runs.seq ?_
  refine Runs.ops ?_
  refine RunAt.chunk 2 [⟨.ptr [8] 0 1, []⟩, ⟨.d (.sl (List.map (D.int .u8) r_1.Body)), []⟩] (by kernel_rfl) ?_
  obtain ⟨r_2, hr_2, h⟩ := bind_s h
  have hc_2 := pubs_Taken_L r_1.Body r_2 hr_2
  refine RunAt.cut (some 52) (.callf 55) [] none [.d (.sl (List.map (D.int .u8) r_1.Body))] (.tup [.d (.sl (List.map Ext.d r_2.1)), .d (.int .i64 r_2.2)]) [] (by kernel_rfl) (by kernel_rfl) (by kernel_rfl) (cut_call (call_of (ws := []) (us := []) (by kernel_rfl) (by kernel_rfl) hc_2 (by kernel_rfl) (by kernel_rfl))) ?_
  refine RunAt.chunk 5 [⟨.tup [.d (.sl (List.map Ext.d r_2.1)), .d (.int .i64 r_2.2)], []⟩, ⟨.d (.sl (List.map Ext.d r_2.1)), []⟩, ⟨.d (.int .i64 r_2.2), []⟩, ⟨.d (.sl (List.map Ext.d r_2.1)), []⟩, ⟨.d (.int .i64 r_2.2), []⟩] (by kernel_rfl) ?_
  refine RunAt.done (by kernel_rfl) ?_
  refine kS_nrm ?_
  refine Runs.seq ?_
  refine Runs.seq ?_
  refine Runs.ops ?_
  refine RunAt.chunk 2 [⟨.ptr [8] 0 1, []⟩, ⟨.d (.sl (List.map (D.int .u8) r_1.Body)), []⟩] (by kernel_rfl) ?_
  refine RunAt.cut (some 57) .bytesStr [] none [.d (.sl (List.map (D.int .u8) r_1.Body))] (.d (.str (b2s r_1.Body))) [] (by kernel_rfl) (by kernel_rfl) (by kernel_rfl) (cut_bs _) ?_
  refine RunAt.chunk 3 [⟨.d (.str e_1.2), []⟩, ⟨.d (.bool ((b2s r_1.Body) != e_1.2)), []⟩, ⟨.d (.bool ((b2s r_1.Body) != e_1.2)), []⟩] (by kernel_rfl) ?_
  cases hb_1 : (((b2s r_1.Body) != e_1.2) : Bool) with
  | true =>
    replace h := ite_t hb_1 h
    refine RunAt.chunk 15 [⟨.tup [], []⟩, ⟨.tup [], []⟩, ⟨.tup [], []⟩, ⟨.d (.bool true), []⟩, ⟨.d (.bool true), []⟩, ⟨.tup [], []⟩, ⟨.tup [], []⟩, ⟨.d (.bool true), []⟩, ⟨.d (.bool true), []⟩, ⟨.tup [], []⟩, ⟨.tup [], []⟩, ⟨.tup [], []⟩, ⟨.tup [], []⟩, ⟨.tup [], []⟩, ⟨.d (.bool true), []⟩] (by kernel_rfl) ?_
    refine RunAt.done (by kernel_rfl) ?_
    refine kS_nrm ?_
    refine Runs.cond_t (by kernel_rfl) ?_
    refine Runs.seq ?_
    refine Runs.ops ?_
    refine RunAt.chunk 1 [⟨.d (.bool false), []⟩] (by kernel_rfl) ?_
    refine RunAt.done (by kernel_rfl) ?_
    refine kS_nrm ?_
    refine Runs.ret ?_
    refine kS_ret ?_
    obtain rfl := Option.some.inj h
    exact ⟨Out.ret_ne, (by kernel_rfl)⟩
  | false =>
    replace h := ite_f hb_1 h
    refine RunAt.chunk 5 [⟨.ptr [8] 0 0, []⟩, ⟨.d (.int .u8 r_1.Kind), []⟩, ⟨.d (.bool (r_1.Kind != 140)), []⟩, ⟨.d (.bool (r_1.Kind != 140)), []⟩, ⟨.d (.bool (r_1.Kind != 140)), []⟩] (by kernel_rfl) ?_
    cases hb_2 : ((r_1.Kind != 140) : Bool) with
    | true =>
      replace h := ite_t hb_2 h
      refine RunAt.chunk 10 [⟨.tup [], []⟩, ⟨.tup [], []⟩, ⟨.d (.bool true), []⟩, ⟨.d (.bool true), []⟩, ⟨.tup [], []⟩, ⟨.tup [], []⟩, ⟨.tup [], []⟩, ⟨.tup [], []⟩, ⟨.tup [], []⟩, ⟨.d (.bool true), []⟩] (by kernel_rfl) ?_
      refine RunAt.done (by kernel_rfl) ?_
      refine kS_nrm ?_
      refine Runs.cond_t (by kernel_rfl) ?_
      refine Runs.seq ?_
      refine Runs.ops ?_
      refine RunAt.chunk 1 [⟨.d (.bool false), []⟩] (by kernel_rfl) ?_
      refine RunAt.done (by kernel_rfl) ?_
      refine kS_nrm ?_
      refine Runs.ret ?_
      refine kS_ret ?_
      obtain rfl := Option.some.inj h
      exact ⟨Out.ret_ne, (by kernel_rfl)⟩
    | false =>
      replace h := ite_f hb_2 h
      refine RunAt.chunk 4 [⟨.d (.int .i64 r_2.2), []⟩, ⟨.d (.bool (r_2.2 != 0)), []⟩, ⟨.d (.bool (r_2.2 != 0)), []⟩, ⟨.d (.bool (r_2.2 != 0)), []⟩] (by kernel_rfl) ?_
      cases hb_3 : ((r_2.2 != 0) : Bool) with
      | true =>
        replace h := ite_t hb_3 h
        refine RunAt.chunk 6 [⟨.tup [], []⟩, ⟨.tup [], []⟩, ⟨.tup [], []⟩, ⟨.tup [], []⟩, ⟨.tup [], []⟩, ⟨.d (.bool true), []⟩] (by kernel_rfl) ?_
        refine RunAt.done (by kernel_rfl) ?_
        refine kS_nrm ?_
        refine Runs.cond_t (by kernel_rfl) ?_
        refine Runs.seq ?_
        refine Runs.ops ?_
        refine RunAt.chunk 1 [⟨.d (.bool false), []⟩] (by kernel_rfl) ?_
        refine RunAt.done (by kernel_rfl) ?_
        refine kS_nrm ?_
        refine Runs.ret ?_
        refine kS_ret ?_
        obtain rfl := Option.some.inj h
        exact ⟨Out.ret_ne, (by kernel_rfl)⟩
      | false =>
        replace h := ite_f hb_3 h
        refine RunAt.chunk 1 [⟨.d (.sl (List.map Ext.d r_2.1)), []⟩] (by kernel_rfl) ?_
        refine RunAt.cut (some 71) .lenL [] none [.d (.sl (List.map Ext.d r_2.1))] (.d (.int .i64 (r_2.1.length : Int))) [] (by kernel_rfl) (by kernel_rfl) (by kernel_rfl) (cut_len _) ?_
        refine RunAt.chunk 1 [⟨.ref [14] g_1 0 (List.map D.str e_1.1).length 1, []⟩] (by kernel_rfl) ?_
        refine RunAt.cut (some 73) .lenL [] none [.ref [14] g_1 0 (List.map D.str e_1.1).length 1] (.d (.int .i64 (e_1.1.length : Int))) [] (by kernel_rfl) (by kernel_rfl) (by kernel_rfl) (cut_lenR (e := D.str) e_1.1 rfl) ?_
        refine RunAt.chunk 2 [⟨.d (.bool ((r_2.1.length : Int) != (e_1.1.length : Int))), []⟩, ⟨.d (.bool ((r_2.1.length : Int) != (e_1.1.length : Int))), []⟩] (by kernel_rfl) ?_
        refine RunAt.done (by kernel_rfl) ?_
        refine kS_nrm ?_
        cases hb_4 : (((r_2.1.length : Int) != (e_1.1.length : Int)) : Bool) with
        | true =>
          replace h := ite_t hb_4 h
          refine Runs.cond_t (by kernel_rfl) ?_
          refine Runs.seq ?_
          refine Runs.ops ?_
          refine RunAt.chunk 1 [⟨.d (.bool false), []⟩] (by kernel_rfl) ?_
          refine RunAt.done (by kernel_rfl) ?_
          refine kS_nrm ?_
          refine Runs.ret ?_
          refine kS_ret ?_
          obtain rfl := Option.some.inj h
          exact ⟨Out.ret_ne, (by kernel_rfl)⟩
        | false =>
          replace h := ite_f hb_4 h
          refine Runs.cond_f (by kernel_rfl) ?_
          refine Runs.skip ?_
          refine kS_nrm ?_
          refine Runs.seq ?_
          refine Runs.seq ?_
          refine Runs.ops ?_
          refine RunAt.chunk 1 [⟨.d (.int .i64 0), []⟩] (by kernel_rfl) ?_
          refine RunAt.done (by kernel_rfl) ?_
          refine kS_nrm ?_
          refine Runs.block ?_
          obtain ⟨e_2, he_2, h⟩ := bind_s h
          refine Runs.loop (fun x : Int => hansomlaw22_PubsTaken_l37 e_1.1 cut_ e_1.2 r_2.1 x) (fun (x : Int) (g : (Nat × Bool)) => hansomlaw22_PubsTaken_h37 e_1.1 cut_ e_1.2 r_2.1 x g.1 g.2) (hansomlaw22_PubsTaken_P37 l_ cut_ e_1.1 cut_ e_1.2 r_2.1) (fun x g r hr => hansomlaw22_PubsTaken_l37_ok l_ cut_ e_1.1 cut_ e_1.2 r_2.1 x g.1 g.2 r hr) (g_1, true) he_2 (Canon.nil (by kernel_rfl)) ?_
          rintro ⟨o, s⟩ hp
          cases e_2 with
          | inl e_3 =>
            obtain ⟨ho, hf⟩ := hp
            have ho' : o = .ret := ho
            subst ho'
            refine kB_ret ?_
            refine kS_ret ?_
            obtain rfl := Option.some.inj h
            exact ⟨Out.ret_ne, hf⟩
          | inr e_4 =>
            obtain ⟨ho, g_2, hk_2⟩ := hp
            have ho' : o = .exit 2 := ho
            subst ho'
            refine kB_hit ?_
            refine kS_nrm ?_
            refine Runs.canon _ hk_2 ?_
            refine Runs.seq ?_
            refine Runs.ops ?_
            refine RunAt.chunk 4 [⟨.d (.str e_1.2), []⟩, ⟨.d (.int .i64 cut_), []⟩, ⟨.d (.int .i64 (bitsOp .and .i64 cut_ 65535)), []⟩, ⟨.d (.str e_1.2), []⟩] (by kernel_rfl) ?_
            refine RunAt.cut (some 97) .lenS [] none [.d (.str e_1.2)] (.d (.int .i64 (e_1.2.length : Int))) [] (by kernel_rfl) (by kernel_rfl) (by kernel_rfl) (cut_lenS _) ?_
            refine RunAt.chunk 1 [⟨.d (.int .i64 (IntKind.wrap .i64 ((e_1.2.length : Int) + 1))), []⟩] (by kernel_rfl) ?_
            obtain ⟨z_1, hz_1, h⟩ := bind_s h
            refine RunAt.cut (some 99) (.bin .rem) [] none [.d (.int .i64 (bitsOp .and .i64 cut_ 65535)), .d (.int .i64 (IntKind.wrap .i64 ((e_1.2.length : Int) + 1)))] (.d (.int .i64 z_1)) [] (by kernel_rfl) (by kernel_rfl) (by kernel_rfl) (cut_rem hz_1) ?_
            obtain ⟨z_2, hz_2, h⟩ := bind_s h
            refine RunAt.cut (some 100) (.substr false true) [] none [.d (.str e_1.2), .d (.int .i64 z_1)] (.d (.str z_2)) [] (by kernel_rfl) (by kernel_rfl) (by kernel_rfl) (cut_strFT hz_2) ?_
            refine RunAt.cut (some 101) .strBytes [] none [.d (.str z_2)] (.ref [101] 0 0 (List.map (D.int .u8) (s2b z_2)).length 1) [([101], some (.arr (List.map (D.int .u8) (s2b z_2)) 0 false))] (by kernel_rfl) (by kernel_rfl) (by kernel_rfl) (cut_sb _ (by kernel_rfl)) ?_
            obtain ⟨r_3, hr_3, h⟩ := bind_s h
            have hc_3 := pubs_Taken_L (s2b z_2) r_3 hr_3
            refine RunAt.cut (some 102) (.callf 55) [] none [.ref [101] 0 0 (List.map (D.int .u8) (s2b z_2)).length 1] (.tup [.d (.sl (List.map Ext.d r_3.1)), .d (.int .i64 r_3.2)]) [([101], some (.arr (List.map (D.int .u8) (s2b z_2)) 0 true))] (by kernel_rfl) (by kernel_rfl) (by kernel_rfl) (cut_call (call_of (ws := [([101], some (.arr (List.map (D.int .u8) (s2b z_2)) 0 true))]) (us := [([101], some (.arr (List.map (D.int .u8) (s2b z_2)) 0 true))]) (by kernel_rfl) (gives_cons (ws := [([101], some (.arr (List.map (D.int .u8) (s2b z_2)) 0 true))]) (give_ref (e := (D.int .u8)) (l := (s2b z_2)) (fz := false) (by kernel_rfl) (by kernel_rfl) rfl) gives_nil) hc_3 (by kernel_rfl) (by kernel_rfl))) ?_
            refine RunAt.chunk 5 [⟨.tup [.d (.sl (List.map Ext.d r_3.1)), .d (.int .i64 r_3.2)], []⟩, ⟨.d (.sl (List.map Ext.d r_3.1)), []⟩, ⟨.d (.int .i64 r_3.2), []⟩, ⟨.d (.sl (List.map Ext.d r_3.1)), []⟩, ⟨.d (.int .i64 r_3.2), []⟩] (by kernel_rfl) ?_
            refine RunAt.done (by kernel_rfl) ?_
            refine kS_nrm ?_
            refine Runs.seq ?_
            refine Runs.ops ?_
            obtain ⟨r_4, hr_4, h⟩ := bind_s h
            have hc_4 := hansomlaw22_awake_L r_4 hr_4
            refine RunAt.cut (some 105) (.callf 39) [] none [] (.d (.bool r_4)) [] (by kernel_rfl) (by kernel_rfl) (by kernel_rfl) (cut_call (call_of (ws := []) (us := []) (by kernel_rfl) (by kernel_rfl) hc_4 (by kernel_rfl) (by kernel_rfl))) ?_
            refine RunAt.chunk 1 [⟨.d (.bool r_4), []⟩] (by kernel_rfl) ?_
            cases hb_5 : (r_4 : Bool) with
            | true =>
              replace h := ite_t hb_5 h
              refine RunAt.chunk 3 [⟨.d (.int .i64 r_3.2), []⟩, ⟨.d (.bool (r_3.2 == 0)), []⟩, ⟨.d (.bool (r_3.2 == 0)), []⟩] (by kernel_rfl) ?_
              cases hb_6 : ((r_3.2 == 0) : Bool) with
              | true =>
                replace h := ite_t hb_6 h
                refine RunAt.chunk 11 [⟨.tup [], []⟩, ⟨.tup [], []⟩, ⟨.tup [], []⟩, ⟨.tup [], []⟩, ⟨.tup [], []⟩, ⟨.tup [], []⟩, ⟨.tup [], []⟩, ⟨.d (.bool true), []⟩, ⟨.d (.bool true), []⟩, ⟨.d (.bool true), []⟩, ⟨.d (.sl (List.map Ext.d r_3.1)), []⟩] (by kernel_rfl) ?_
                refine RunAt.cut (some 121) .lenL [] none [.d (.sl (List.map Ext.d r_3.1))] (.d (.int .i64 (r_3.1.length : Int))) [] (by kernel_rfl) (by kernel_rfl) (by kernel_rfl) (cut_len _) ?_
                refine RunAt.chunk 1 [⟨.ref [14] g_2.1 0 (List.map D.str e_1.1).length 1, []⟩] (by kernel_rfl) ?_
                refine RunAt.cut (some 123) .lenL [] none [.ref [14] g_2.1 0 (List.map D.str e_1.1).length 1] (.d (.int .i64 (e_1.1.length : Int))) [] (by kernel_rfl) (by kernel_rfl) (by kernel_rfl) (cut_lenR (e := D.str) e_1.1 rfl) ?_
                refine RunAt.chunk 3 [⟨.d (.bool (decide ((r_3.1.length : Int) ≤ (e_1.1.length : Int)))), []⟩, ⟨.d (.bool (decide ((r_3.1.length : Int) ≤ (e_1.1.length : Int)))), []⟩, ⟨.d (.bool (decide ((r_3.1.length : Int) ≤ (e_1.1.length : Int)))), []⟩] (by kernel_rfl) ?_
                refine RunAt.done (by kernel_rfl) ?_
                refine kS_nrm ?_
                refine Runs.ret ?_
                obtain rfl := Option.some.inj h
                exact ⟨Out.ret_ne, (by kernel_rfl)⟩
              | false =>
                replace h := ite_f hb_6 h
                refine RunAt.chunk 3 [⟨.d (.int .i64 r_3.2), []⟩, ⟨.d (.bool (r_3.2 == 2)), []⟩, ⟨.d (.bool (r_3.2 == 2)), []⟩] (by kernel_rfl) ?_
                cases hb_7 : ((r_3.2 == 2) : Bool) with
                | true =>
                  replace h := ite_t hb_7 h
                  refine RunAt.chunk 1 [⟨.d (.sl (List.map Ext.d r_3.1)), []⟩] (by kernel_rfl) ?_
                  refine RunAt.cut (some 114) .lenL [] none [.d (.sl (List.map Ext.d r_3.1))] (.d (.int .i64 (r_3.1.length : Int))) [] (by kernel_rfl) (by kernel_rfl) (by kernel_rfl) (cut_len _) ?_
                  refine RunAt.chunk 5 [⟨.d (.bool ((r_3.1.length : Int) == 0)), []⟩, ⟨.d (.bool ((r_3.1.length : Int) == 0)), []⟩, ⟨.d (.bool ((r_3.1.length : Int) == 0)), []⟩, ⟨.d (.bool ((r_3.1.length : Int) == 0)), []⟩, ⟨.d (.bool ((r_3.1.length : Int) == 0)), []⟩] (by kernel_rfl) ?_
                  cases hb_8 : (((r_3.1.length : Int) == 0) : Bool) with
                  | true =>
                    replace h := ite_t hb_8 h
                    refine RunAt.chunk 1 [⟨.d (.sl (List.map Ext.d r_3.1)), []⟩] (by kernel_rfl) ?_
                    refine RunAt.cut (some 121) .lenL [] none [.d (.sl (List.map Ext.d r_3.1))] (.d (.int .i64 (r_3.1.length : Int))) [] (by kernel_rfl) (by kernel_rfl) (by kernel_rfl) (cut_len _) ?_
                    refine RunAt.chunk 1 [⟨.ref [14] g_2.1 0 (List.map D.str e_1.1).length 1, []⟩] (by kernel_rfl) ?_
                    refine RunAt.cut (some 123) .lenL [] none [.ref [14] g_2.1 0 (List.map D.str e_1.1).length 1] (.d (.int .i64 (e_1.1.length : Int))) [] (by kernel_rfl) (by kernel_rfl) (by kernel_rfl) (cut_lenR (e := D.str) e_1.1 rfl) ?_
                    refine RunAt.chunk 3 [⟨.d (.bool (decide ((r_3.1.length : Int) ≤ (e_1.1.length : Int)))), []⟩, ⟨.d (.bool (decide ((r_3.1.length : Int) ≤ (e_1.1.length : Int)))), []⟩, ⟨.d (.bool (decide ((r_3.1.length : Int) ≤ (e_1.1.length : Int)))), []⟩] (by kernel_rfl) ?_
                    refine RunAt.done (by kernel_rfl) ?_
                    refine kS_nrm ?_
                    refine Runs.ret ?_
                    obtain rfl := Option.some.inj h
                    exact ⟨Out.ret_ne, (by kernel_rfl)⟩
                  | false =>
                    replace h := ite_f hb_8 h
                    refine RunAt.chunk 7 [⟨.tup [], []⟩, ⟨.tup [], []⟩, ⟨.tup [], []⟩, ⟨.tup [], []⟩, ⟨.tup [], []⟩, ⟨.d (.bool false), []⟩, ⟨.d (.bool false), []⟩] (by kernel_rfl) ?_
                    refine RunAt.done (by kernel_rfl) ?_
                    refine kS_nrm ?_
                    refine Runs.ret ?_
                    obtain rfl := Option.some.inj h
                    exact ⟨Out.ret_ne, (by kernel_rfl)⟩
                | false =>
                  replace h := ite_f hb_7 h
                  refine RunAt.chunk 14 [⟨.tup [], []⟩, ⟨.tup [], []⟩, ⟨.tup [], []⟩, ⟨.d (.bool false), []⟩, ⟨.d (.bool false), []⟩, ⟨.d (.bool false), []⟩, ⟨.d (.bool false), []⟩, ⟨.tup [], []⟩, ⟨.tup [], []⟩, ⟨.tup [], []⟩, ⟨.tup [], []⟩, ⟨.tup [], []⟩, ⟨.d (.bool false), []⟩, ⟨.d (.bool false), []⟩] (by kernel_rfl) ?_
                  refine RunAt.done (by kernel_rfl) ?_
                  refine kS_nrm ?_
                  refine Runs.ret ?_
                  obtain rfl := Option.some.inj h
                  exact ⟨Out.ret_ne, (by kernel_rfl)⟩
            | false =>
              replace h := ite_f hb_5 h
              refine RunAt.chunk 20 [⟨.tup [], []⟩, ⟨.tup [], []⟩, ⟨.tup [], []⟩, ⟨.tup [], []⟩, ⟨.tup [], []⟩, ⟨.tup [], []⟩, ⟨.tup [], []⟩, ⟨.tup [], []⟩, ⟨.tup [], []⟩, ⟨.tup [], []⟩, ⟨.tup [], []⟩, ⟨.d (.bool false), []⟩, ⟨.d (.bool false), []⟩, ⟨.tup [], []⟩, ⟨.tup [], []⟩, ⟨.tup [], []⟩, ⟨.tup [], []⟩, ⟨.tup [], []⟩, ⟨.d (.bool false), []⟩, ⟨.d (.bool false), []⟩] (by kernel_rfl) ?_
              refine RunAt.done (by kernel_rfl) ?_
              refine kS_nrm ?_
              refine Runs.ret ?_
              obtain rfl := Option.some.inj h
              exact ⟨Out.ret_ne, (by kernel_rfl)⟩
theorem hansomlaw22_PubsTaken_L (l_ : (List (List UInt8))) (cut_ : Int) (r : Bool) (h : hansomlaw22_PubsTaken l_ cut_ = some r) : L 11 [.d (.sl (List.map D.str l_)), .d (.int .i64 cut_)] = some (.d (.bool r), [.d (.sl (List.map D.str l_)), .d (.int .i64 cut_)]) := by
  obtain ⟨p, ⟨hne, hf⟩, hr⟩ := hansomlaw22_PubsTaken_ok l_ cut_ r h
  obtain ⟨k, hk⟩ := run_of (F := F11) (args := [.d (.sl (List.map D.str l_)), .d (.int .i64 cut_)]) (ap := [.d (.sl (List.map D.str l_)), .d (.int .i64 cut_)]) (bx0 := updW (fun _ => none) []) rfl rfl (by kernel_rfl) ⟨p, ⟨hne, hf⟩, hr⟩
  exact lim_run (k := k) rfl hk
end Go.Es.Ptk
