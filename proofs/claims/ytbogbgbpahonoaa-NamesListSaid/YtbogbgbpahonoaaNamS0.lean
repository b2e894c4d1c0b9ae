/- The interpreter answers as plain Lean does: part 1. No condition. -/
import Derived.Test.YtbogbgbpahonoaaNamF
import Derived.Test.YtbogbgbpahonoaaNamP
import Derived.KernelRfl
set_option linter.unusedVariables false
set_option linter.unusedSimpArgs false
set_option maxRecDepth 100000
set_option maxHeartbeats 4000000
namespace Go.Es.Nam
def index_Name_Q (s_ : (List UInt8)) (r : (List Int)) (p : Out × St) : Prop := (∀ i, p.1 ≠ .exit i) ∧ finF F60 [.d (.str s_)] p.2 = some (.d (.sl (List.map (D.int .u8) r)), [.d (.str s_)])
theorem index_Name_ok (s_ : (List UInt8)) (r : (List Int)) (h : index_Name s_ = some r) : Runs L F60.body ⟨tmOf [.d (.str s_)] 0, updW (fun _ => none) []⟩ (index_Name_Q s_ r) := by
  unfold index_Name at h
  refine Runs.seq ?_
  refine Runs.ops ?_
  refine RunAt.chunk 1 [⟨.nils, []⟩] (by kernel_rfl) ?_
  refine RunAt.done (by kernel_rfl) ?_
  refine kS_nrm ?_
  refine Runs.seq ?_
  refine Runs.ops ?_
  refine RunAt.chunk 2 [⟨.d (.str s_), []⟩, ⟨.d (.str s_), []⟩] (by kernel_rfl) ?_
  refine RunAt.cut (some 5) .lenS [] none [.d (.str s_)] (.d (.int .i64 (s_.length : Int))) [] (by kernel_rfl) (by kernel_rfl) (by kernel_rfl) (cut_lenS _) ?_
  refine RunAt.chunk 1 [⟨.d (.int .i64 (mnI (s_.length : Int) 255)), []⟩] (by kernel_rfl) ?_
  obtain ⟨z_1, hz_1, h⟩ := bind_s h
  refine RunAt.cut (some 7) (.substr false true) [] none [.d (.str s_), .d (.int .i64 (mnI (s_.length : Int) 255))] (.d (.str z_1)) [] (by kernel_rfl) (by kernel_rfl) (by kernel_rfl) (cut_strFT hz_1) ?_
  refine RunAt.chunk 1 [⟨.d (.str z_1), []⟩] (by kernel_rfl) ?_
  refine RunAt.done (by kernel_rfl) ?_
  refine kS_nrm ?_
  refine Runs.seq ?_
  refine Runs.ops ?_
  refine RunAt.chunk 1 [⟨.d (.str z_1), []⟩] (by kernel_rfl) ?_
  refine RunAt.cut (some 9) .lenS [] none [.d (.str z_1)] (.d (.int .i64 (z_1.length : Int))) [] (by kernel_rfl) (by kernel_rfl) (by kernel_rfl) (cut_lenS _) ?_
  refine RunAt.chunk 3 [⟨.d (.int .u8 (IntKind.wrap .u8 (z_1.length : Int))), []⟩, ⟨.ref [11] 0 0 (List.map (D.int .u8) ([(IntKind.wrap .u8 (z_1.length : Int))] : List Int)).length 1, [([11], some (.arr (List.map (D.int .u8) ([(IntKind.wrap .u8 (z_1.length : Int))] : List Int)) 0 false))]⟩, ⟨.d (.str z_1), []⟩] (by kernel_rfl) ?_
  obtain ⟨z_2, hz_2, h⟩ := bind_s h
  refine RunAt.cut (some 13) (.append 1 1 true) [] none [.ref [11] 0 0 (List.map (D.int .u8) ([(IntKind.wrap .u8 (z_1.length : Int))] : List Int)).length 1, .d (.str z_1)] (.ref [11] 1 0 (List.map (D.int .u8) z_2).length 1) [([11], some (.arr (List.map (D.int .u8) z_2) 1 false))] (by kernel_rfl) (by kernel_rfl) (by kernel_rfl) (cut_appR (e := (D.int .u8)) (l := ([(IntKind.wrap .u8 (z_1.length : Int))] : List Int)) (fz := false) (ws := []) (ap_str _) (fun _ => rfl) hz_2 (by kernel_rfl) (by kernel_rfl) rfl) ?_
  refine RunAt.chunk 1 [⟨.ref [11] 1 0 (List.map (D.int .u8) z_2).length 1, []⟩] (by kernel_rfl) ?_
  refine RunAt.done (by kernel_rfl) ?_
  refine kS_nrm ?_
  refine Runs.seq ?_
  refine Runs.gcons (frz_ref (e := (D.int .u8)) (l := z_2) (id := [11]) (v := 1) (n := 1) (fz := false) (by kernel_rfl) (by kernel_rfl) rfl) ?_
  refine Runs.gnil ?_
  refine kS_nrm ?_
  refine Runs.ret ?_
  obtain rfl := Option.some.inj h
  exact ⟨Out.ret_ne, (by kernel_rfl)⟩
theorem index_Name_L (s_ : (List UInt8)) (r : (List Int)) (h : index_Name s_ = some r) : L 60 [.d (.str s_)] = some (.d (.sl (List.map (D.int .u8) r)), [.d (.str s_)]) := by
  obtain ⟨p, ⟨hne, hf⟩, hr⟩ := index_Name_ok s_ r h
  obtain ⟨k, hk⟩ := run_of (F := F60) (args := [.d (.str s_)]) (ap := [.d (.str s_)]) (bx0 := updW (fun _ => none) []) rfl rfl (by kernel_rfl) ⟨p, ⟨hne, hf⟩, hr⟩
  exact lim_run (k := k) rfl hk
def names_Header_Q (name_ : (List UInt8)) (r : Record) (p : Out × St) : Prop := (∀ i, p.1 ≠ .exit i) ∧ finF F34 [.d (.str name_)] p.2 = some (.d (Record.d r), [.d (.str name_)])
theorem names_Header_ok (name_ : (List UInt8)) (r : Record) (h : names_Header name_ = some r) : Runs L F34.body ⟨tmOf [.d (.str name_)] 0, updW (fun _ => none) []⟩ (names_Header_Q name_ r) := by
  unfold names_Header at h
  refine Runs.seq ?_
  refine Runs.ops ?_
  refine RunAt.chunk 1 [⟨.ptr [2] 0 0, [([2], some (.cells [.d (.int .u8 0), .nils] 0))]⟩] (by kernel_rfl) ?_
  refine RunAt.done (by kernel_rfl) ?_
  refine kS_nrm ?_
  refine Runs.seq ?_
  refine Runs.ops ?_
  refine RunAt.chunk 1 [⟨.d (.str name_), []⟩] (by kernel_rfl) ?_
  obtain ⟨r_1, hr_1, h⟩ := bind_s h
  have hc_1 := index_Name_L name_ r_1 hr_1
  refine RunAt.cut (some 4) (.callf 60) [] none [.d (.str name_)] (.d (.sl (List.map (D.int .u8) r_1))) [] (by kernel_rfl) (by kernel_rfl) (by kernel_rfl) (cut_call (call_of (ws := []) (us := []) (by kernel_rfl) (by kernel_rfl) hc_1 (by kernel_rfl) (by kernel_rfl))) ?_
  refine RunAt.chunk 2 [⟨.d (.agg [.int .u8 128, .sl (List.map (D.int .u8) r_1)]), []⟩, ⟨.tup [], [([2], some (.cells [.d (.int .u8 128), .d (.sl (List.map (D.int .u8) r_1))] 0))]⟩] (by kernel_rfl) ?_
  refine RunAt.done (by kernel_rfl) ?_
  refine kS_nrm ?_
  refine Runs.ret ?_
  obtain rfl := Option.some.inj h
  exact ⟨Out.ret_ne, (by kernel_rfl)⟩
theorem names_Header_L (name_ : (List UInt8)) (r : Record) (h : names_Header name_ = some r) : L 34 [.d (.str name_)] = some (.d (Record.d r), [.d (.str name_)]) := by
  obtain ⟨p, ⟨hne, hf⟩, hr⟩ := names_Header_ok name_ r h
  obtain ⟨k, hk⟩ := run_of (F := F34) (args := [.d (.str name_)]) (ap := [.d (.str name_)]) (bx0 := updW (fun _ => none) []) rfl rfl (by kernel_rfl) ⟨p, ⟨hne, hf⟩, hr⟩
  exact lim_run (k := k) rfl hk
def index_From_Q (b_ : (List Int)) (r : Source) (p : Out × St) : Prop := (∀ i, p.1 ≠ .exit i) ∧ finF F61 [.d (.sl (List.map (D.int .u8) b_))] p.2 = some (.ptr [.d (.sl (List.map (D.int .u8) r.b)), .d (.int .i64 r.e)], [.d (.sl (List.map (D.int .u8) b_))])
theorem index_From_ok (b_ : (List Int)) (r : Source) (h : index_From b_ = some r) : Runs L F61.body ⟨tmOf [.d (.sl (List.map (D.int .u8) b_))] 0, updW (fun _ => none) []⟩ (index_From_Q b_ r) := by
  unfold index_From at h
  refine Runs.seq ?_
  refine Runs.ops ?_
  refine RunAt.chunk 1 [⟨.nilp, []⟩] (by kernel_rfl) ?_
  refine RunAt.done (by kernel_rfl) ?_
  refine kS_nrm ?_
  refine Runs.seq ?_
  refine Runs.ops ?_
  refine RunAt.chunk 1 [⟨.d (.sl (List.map (D.int .u8) b_)), []⟩] (by kernel_rfl) ?_
  obtain ⟨z_1, hz_1, h⟩ := bind_s h
  refine RunAt.cut (some 4) (.append 1 1 false) [] none [.nils, .d (.sl (List.map (D.int .u8) b_))] (.ref [4] 0 0 (List.map (D.int .u8) z_1).length 1) [([4], some (.arr (List.map (D.int .u8) z_1) 0 false))] (by kernel_rfl) (by kernel_rfl) (by kernel_rfl) (cut_appN (e := (D.int .u8)) (ws := []) (ap_data _) (fun _ => rfl) hz_1 (by kernel_rfl)) ?_
  refine RunAt.chunk 3 [⟨.mix [.ref [4] 0 0 (List.map (D.int .u8) z_1).length 1, .d (.int .i64 0)], []⟩, ⟨.ptr [6] 0 0, [([6], some (.cells [.ref [4] 0 0 (List.map (D.int .u8) z_1).length 1, .d (.int .i64 0)] 0))]⟩, ⟨.ptr [6] 0 0, []⟩] (by kernel_rfl) ?_
  refine RunAt.done (by kernel_rfl) ?_
  refine kS_nrm ?_
  refine Runs.seq ?_
  refine Runs.gcons (frzB_ref (e := (D.int .u8)) (l := z_1) (id := [6]) (id' := [4]) (v := 0) (n := 1) (fz := false) (ver := 0) (cs := [.ref [4] 0 0 (List.map (D.int .u8) z_1).length 1, .d (.int .i64 0)]) (cs' := [.d (.sl (List.map (D.int .u8) z_1)), .d (.int .i64 0)]) (by kernel_rfl) (by kernel_rfl) (by kernel_rfl) (by decide) (by kernel_rfl) rfl) ?_
  refine Runs.gnil ?_
  refine kS_nrm ?_
  refine Runs.ret ?_
  obtain rfl := Option.some.inj h
  exact ⟨Out.ret_ne, (by kernel_rfl)⟩
theorem index_From_L (b_ : (List Int)) (r : Source) (h : index_From b_ = some r) : L 61 [.d (.sl (List.map (D.int .u8) b_))] = some (.ptr [.d (.sl (List.map (D.int .u8) r.b)), .d (.int .i64 r.e)], [.d (.sl (List.map (D.int .u8) b_))]) := by
  obtain ⟨p, ⟨hne, hf⟩, hr⟩ := index_From_ok b_ r h
  obtain ⟨k, hk⟩ := run_of (F := F61) (args := [.d (.sl (List.map (D.int .u8) b_))]) (ap := [.d (.sl (List.map (D.int .u8) b_))]) (bx0 := updW (fun _ => none) []) rfl rfl (by kernel_rfl) ⟨p, ⟨hne, hf⟩, hr⟩
  exact lim_run (k := k) rfl hk
def index_Source_Wrong_Q (s_ : Source) (e_ : Int) (r : Source) (p : Out × St) : Prop := (∀ i, p.1 ≠ .exit i) ∧ finF F79 [.ptr [0] 0 0, .d (.int .i64 e_)] p.2 = some (.tup [], [.ptr [.d (.sl (List.map (D.int .u8) r.b)), .d (.int .i64 r.e)], .d (.int .i64 e_)])
theorem index_Source_Wrong_ok (s_ : Source) (e_ : Int) (r : Source) (h : index_Source_Wrong s_ e_ = some r) : Runs L F79.body ⟨tmOf [.ptr [0] 0 0, .d (.int .i64 e_)] 0, updW (fun _ => none) [([0], some (.cells [.d (.sl (List.map (D.int .u8) s_.b)), .d (.int .i64 s_.e)] 0))]⟩ (index_Source_Wrong_Q s_ e_ r) := by
  unfold index_Source_Wrong at h
  refine Runs.seq ?_
  refine Runs.seq ?_
  refine Runs.ops ?_
  refine RunAt.chunk 10 [⟨.ptr [0] 0 0, []⟩, ⟨.d (.bool true), []⟩, ⟨.d (.bool true), []⟩, ⟨.ptr [0] 0 0, []⟩, ⟨.ptr [0] 0 0, []⟩, ⟨.ptr [0] 0 1, []⟩, ⟨.d (.int .i64 s_.e), []⟩, ⟨.d (.bool (s_.e == 0)), []⟩, ⟨.d (.bool (s_.e == 0)), []⟩, ⟨.d (.bool (s_.e == 0)), []⟩] (by kernel_rfl) ?_
  cases hb_1 : ((s_.e == 0) : Bool) with
  | true =>
    replace h := ite_t hb_1 h
    refine RunAt.chunk 3 [⟨.d (.int .i64 e_), []⟩, ⟨.d (.bool (e_ != 0)), []⟩, ⟨.d (.bool (e_ != 0)), []⟩] (by kernel_rfl) ?_
    refine RunAt.done (by kernel_rfl) ?_
    refine kS_nrm ?_
    cases hb_2 : ((e_ != 0) : Bool) with
    | true =>
      replace h := ite_t hb_2 h
      refine Runs.cond_t (by kernel_rfl) ?_
      refine Runs.ops ?_
      refine RunAt.chunk 9 [⟨.ptr [0] 0 0, []⟩, ⟨.ptr [0] 0 0, []⟩, ⟨.d (.int .i64 e_), []⟩, ⟨.ptr [0] 0 0, []⟩, ⟨.ptr [0] 0 1, []⟩, ⟨.tup [], [([0], some (.cells [.d (.sl (List.map (D.int .u8) s_.b)), .d (.int .i64 e_)] 0))]⟩, ⟨.ptr [0] 0 0, []⟩, ⟨.ptr [0] 0 0, []⟩, ⟨.tup [], [([0], some (.cells [.nils, .d (.int .i64 e_)] 0))]⟩] (by kernel_rfl) ?_
      refine RunAt.done (by kernel_rfl) ?_
      refine kS_nrm ?_
      refine Runs.gcons (frzB_nil (ver := 0) (cs := [.nils, .d (.int .i64 e_)]) (cs' := [.d (.sl (List.map (D.int .u8) ([] : List Int))), .d (.int .i64 e_)]) (D.int .u8) (by kernel_rfl) (by kernel_rfl) (by kernel_rfl)) ?_
      refine Runs.gnil ?_
      obtain rfl := Option.some.inj h
      exact ⟨Out.nrm_ne, (by kernel_rfl)⟩
    | false =>
      replace h := ite_f hb_2 h
      refine Runs.cond_f (by kernel_rfl) ?_
      refine Runs.skip ?_
      refine kS_nrm ?_
      refine Runs.gsame (by kernel_rfl) ?_
      refine Runs.gnil ?_
      obtain rfl := Option.some.inj h
      exact ⟨Out.nrm_ne, (by kernel_rfl)⟩
  | false =>
    replace h := ite_f hb_1 h
    refine RunAt.chunk 3 [⟨.tup [], []⟩, ⟨.tup [], []⟩, ⟨.d (.bool false), []⟩] (by kernel_rfl) ?_
    refine RunAt.done (by kernel_rfl) ?_
    refine kS_nrm ?_
    refine Runs.cond_f (by kernel_rfl) ?_
    refine Runs.skip ?_
    refine kS_nrm ?_
    refine Runs.gsame (by kernel_rfl) ?_
    refine Runs.gnil ?_
    obtain rfl := Option.some.inj h
    exact ⟨Out.nrm_ne, (by kernel_rfl)⟩
theorem index_Source_Wrong_L (s_ : Source) (e_ : Int) (r : Source) (h : index_Source_Wrong s_ e_ = some r) : L 79 [.ptr [.d (.sl (List.map (D.int .u8) s_.b)), .d (.int .i64 s_.e)], .d (.int .i64 e_)] = some (.tup [], [.ptr [.d (.sl (List.map (D.int .u8) r.b)), .d (.int .i64 r.e)], .d (.int .i64 e_)]) := by
  obtain ⟨p, ⟨hne, hf⟩, hr⟩ := index_Source_Wrong_ok s_ e_ r h
  obtain ⟨k, hk⟩ := run_of (F := F79) (args := [.ptr [.d (.sl (List.map (D.int .u8) s_.b)), .d (.int .i64 s_.e)], .d (.int .i64 e_)]) (ap := [.ptr [0] 0 0, .d (.int .i64 e_)]) (bx0 := updW (fun _ => none) [([0], some (.cells [.d (.sl (List.map (D.int .u8) s_.b)), .d (.int .i64 s_.e)] 0))]) rfl rfl (by kernel_rfl) ⟨p, ⟨hne, hf⟩, hr⟩
  exact lim_run (k := k) rfl hk
def index_Source_Take_Q (s_ : Source) (n_ : Int) (r : ((List Int) × Source)) (p : Out × St) : Prop := (∀ i, p.1 ≠ .exit i) ∧ finF F65 [.ptr [0] 0 0, .d (.int .i64 n_)] p.2 = some (.d (.sl (List.map (D.int .u8) r.1)), [.ptr [.d (.sl (List.map (D.int .u8) r.2.b)), .d (.int .i64 r.2.e)], .d (.int .i64 n_)])
theorem index_Source_Take_ok (s_ : Source) (n_ : Int) (r : ((List Int) × Source)) (h : index_Source_Take s_ n_ = some r) : Runs L F65.body ⟨tmOf [.ptr [0] 0 0, .d (.int .i64 n_)] 0, updW (fun _ => none) [([0], some (.cells [.d (.sl (List.map (D.int .u8) s_.b)), .d (.int .i64 s_.e)] 0))]⟩ (index_Source_Take_Q s_ n_ r) := by
  unfold index_Source_Take at h
  refine Runs.seq ?_
  refine Runs.ops ?_
  refine RunAt.chunk 1 [⟨.nils, []⟩] (by kernel_rfl) ?_
  refine RunAt.done (by kernel_rfl) ?_
  refine kS_nrm ?_
  refine Runs.seq ?_
  refine Runs.seq ?_
  refine Runs.ops ?_
  refine RunAt.chunk 2 [⟨.ptr [0] 0 0, []⟩, ⟨.d (.bool false), []⟩] (by kernel_rfl) ?_
  refine RunAt.done (by kernel_rfl) ?_
  refine kS_nrm ?_
  refine Runs.cond_f (by kernel_rfl) ?_
  refine Runs.skip ?_
  refine kS_nrm ?_
  refine Runs.seq ?_
  refine Runs.seq ?_
  refine Runs.ops ?_
  refine RunAt.chunk 3 [⟨.d (.int .i64 n_), []⟩, ⟨.d (.bool (decide (n_ < 0))), []⟩, ⟨.d (.bool (decide (n_ < 0))), []⟩] (by kernel_rfl) ?_
  cases hb_1 : ((decide (n_ < 0)) : Bool) with
  | true =>
    replace h := ite_t hb_1 h
    refine RunAt.chunk 8 [⟨.tup [], []⟩, ⟨.tup [], []⟩, ⟨.tup [], []⟩, ⟨.tup [], []⟩, ⟨.tup [], []⟩, ⟨.tup [], []⟩, ⟨.tup [], []⟩, ⟨.d (.bool true), []⟩] (by kernel_rfl) ?_
    refine RunAt.done (by kernel_rfl) ?_
    refine kS_nrm ?_
    refine Runs.cond_t (by kernel_rfl) ?_
    refine Runs.seq ?_
    refine Runs.ops ?_
    refine RunAt.chunk 1 [⟨.ptr [0] 0 0, []⟩] (by kernel_rfl) ?_
    obtain ⟨r_1, hr_1, h⟩ := bind_s h
    have hc_1 := index_Source_Wrong_L s_ 2 r_1 hr_1
    refine RunAt.cut (some 20) (.callf 79) [] none [.ptr [0] 0 0, .d (.int .i64 2)] (.tup []) [([0], some (.cells [.d (.sl (List.map (D.int .u8) r_1.b)), .d (.int .i64 r_1.e)] 0))] (by kernel_rfl) (by kernel_rfl) (by kernel_rfl) (cut_call (call_of (ws := []) (us := [([0], some (.cells [.d (.sl (List.map (D.int .u8) r_1.b)), .d (.int .i64 r_1.e)] 0))]) (by kernel_rfl) (by kernel_rfl) hc_1 (by kernel_rfl) (by kernel_rfl))) ?_
    refine RunAt.done (by kernel_rfl) ?_
    refine kS_nrm ?_
    refine Runs.seq ?_
    refine Runs.ops ?_
    refine RunAt.chunk 1 [⟨.nils, []⟩] (by kernel_rfl) ?_
    refine RunAt.done (by kernel_rfl) ?_
    refine kS_nrm ?_
    refine Runs.seq ?_
    refine Runs.gcons (frz_nil (D.int .u8) (by kernel_rfl)) ?_
    refine Runs.gnil ?_
    refine kS_nrm ?_
    refine Runs.ret ?_
    refine kS_ret ?_
    obtain rfl := Option.some.inj h
    exact ⟨Out.ret_ne, (by kernel_rfl)⟩
  | false =>
    replace h := ite_f hb_1 h
    refine RunAt.chunk 5 [⟨.d (.int .i64 n_), []⟩, ⟨.ptr [0] 0 0, []⟩, ⟨.ptr [0] 0 0, []⟩, ⟨.ptr [0] 0 0, []⟩, ⟨.d (.sl (List.map (D.int .u8) s_.b)), []⟩] (by kernel_rfl) ?_
    refine RunAt.cut (some 16) .lenL [] none [.d (.sl (List.map (D.int .u8) s_.b))] (.d (.int .i64 (s_.b.length : Int))) [] (by kernel_rfl) (by kernel_rfl) (by kernel_rfl) (cut_len _) ?_
    refine RunAt.chunk 2 [⟨.d (.bool (decide (n_ > (s_.b.length : Int)))), []⟩, ⟨.d (.bool (decide (n_ > (s_.b.length : Int)))), []⟩] (by kernel_rfl) ?_
    refine RunAt.done (by kernel_rfl) ?_
    refine kS_nrm ?_
    cases hb_2 : ((decide (n_ > (s_.b.length : Int))) : Bool) with
    | true =>
      replace h := ite_t hb_2 h
      refine Runs.cond_t (by kernel_rfl) ?_
      refine Runs.seq ?_
      refine Runs.ops ?_
      refine RunAt.chunk 1 [⟨.ptr [0] 0 0, []⟩] (by kernel_rfl) ?_
      obtain ⟨r_2, hr_2, h⟩ := bind_s h
      have hc_2 := index_Source_Wrong_L s_ 2 r_2 hr_2
      refine RunAt.cut (some 20) (.callf 79) [] none [.ptr [0] 0 0, .d (.int .i64 2)] (.tup []) [([0], some (.cells [.d (.sl (List.map (D.int .u8) r_2.b)), .d (.int .i64 r_2.e)] 0))] (by kernel_rfl) (by kernel_rfl) (by kernel_rfl) (cut_call (call_of (ws := []) (us := [([0], some (.cells [.d (.sl (List.map (D.int .u8) r_2.b)), .d (.int .i64 r_2.e)] 0))]) (by kernel_rfl) (by kernel_rfl) hc_2 (by kernel_rfl) (by kernel_rfl))) ?_
      refine RunAt.done (by kernel_rfl) ?_
      refine kS_nrm ?_
      refine Runs.seq ?_
      refine Runs.ops ?_
      refine RunAt.chunk 1 [⟨.nils, []⟩] (by kernel_rfl) ?_
      refine RunAt.done (by kernel_rfl) ?_
      refine kS_nrm ?_
      refine Runs.seq ?_
      refine Runs.gcons (frz_nil (D.int .u8) (by kernel_rfl)) ?_
      refine Runs.gnil ?_
      refine kS_nrm ?_
      refine Runs.ret ?_
      refine kS_ret ?_
      obtain rfl := Option.some.inj h
      exact ⟨Out.ret_ne, (by kernel_rfl)⟩
    | false =>
      replace h := ite_f hb_2 h
      refine Runs.cond_f (by kernel_rfl) ?_
      refine Runs.skip ?_
      refine kS_nrm ?_
      refine Runs.seq ?_
      refine Runs.ops ?_
      refine RunAt.chunk 6 [⟨.ptr [0] 0 0, []⟩, ⟨.ptr [0] 0 0, []⟩, ⟨.ptr [0] 0 0, []⟩, ⟨.d (.sl (List.map (D.int .u8) s_.b)), []⟩, ⟨.d (.int .i64 n_), []⟩, ⟨.d (.int .i64 n_), []⟩] (by kernel_rfl) ?_
      obtain ⟨z_1, hz_1, h⟩ := bind_s h
      refine RunAt.cut (some 27) (.subsl 1 false true true) [] none [.d (.sl (List.map (D.int .u8) s_.b)), .d (.int .i64 n_), .d (.int .i64 n_)] (.d (.sl (List.map (D.int .u8) z_1))) [] (by kernel_rfl) (by kernel_rfl) (by kernel_rfl) (cut_slFTT hz_1 (fun _ => rfl)) ?_
      refine RunAt.chunk 1 [⟨.d (.sl (List.map (D.int .u8) z_1)), []⟩] (by kernel_rfl) ?_
      refine RunAt.done (by kernel_rfl) ?_
      refine kS_nrm ?_
      refine Runs.seq ?_
      refine Runs.ops ?_
      refine RunAt.chunk 6 [⟨.ptr [0] 0 0, []⟩, ⟨.ptr [0] 0 0, []⟩, ⟨.ptr [0] 0 0, []⟩, ⟨.ptr [0] 0 0, []⟩, ⟨.d (.sl (List.map (D.int .u8) s_.b)), []⟩, ⟨.d (.int .i64 n_), []⟩] (by kernel_rfl) ?_
      obtain ⟨z_2, hz_2, h⟩ := bind_s h
      refine RunAt.cut (some 34) (.subsl 1 true false false) [] none [.d (.sl (List.map (D.int .u8) s_.b)), .d (.int .i64 n_)] (.d (.sl (List.map (D.int .u8) z_2))) [] (by kernel_rfl) (by kernel_rfl) (by kernel_rfl) (cut_slTF hz_2 (fun _ => rfl)) ?_
      refine RunAt.chunk 3 [⟨.ptr [0] 0 0, []⟩, ⟨.ptr [0] 0 0, []⟩, ⟨.tup [], [([0], some (.cells [.d (.sl (List.map (D.int .u8) z_2)), .d (.int .i64 s_.e)] 0))]⟩] (by kernel_rfl) ?_
      refine RunAt.done (by kernel_rfl) ?_
      refine kS_nrm ?_
      refine Runs.seq ?_
      refine Runs.ops ?_
      refine RunAt.chunk 2 [⟨.d (.sl (List.map (D.int .u8) z_1)), []⟩, ⟨.d (.sl (List.map (D.int .u8) z_1)), []⟩] (by kernel_rfl) ?_
      refine RunAt.done (by kernel_rfl) ?_
      refine kS_nrm ?_
      refine Runs.ret ?_
      obtain rfl := Option.some.inj h
      exact ⟨Out.ret_ne, (by kernel_rfl)⟩
theorem index_Source_Take_L (s_ : Source) (n_ : Int) (r : ((List Int) × Source)) (h : index_Source_Take s_ n_ = some r) : L 65 [.ptr [.d (.sl (List.map (D.int .u8) s_.b)), .d (.int .i64 s_.e)], .d (.int .i64 n_)] = some (.d (.sl (List.map (D.int .u8) r.1)), [.ptr [.d (.sl (List.map (D.int .u8) r.2.b)), .d (.int .i64 r.2.e)], .d (.int .i64 n_)]) := by
  obtain ⟨p, ⟨hne, hf⟩, hr⟩ := index_Source_Take_ok s_ n_ r h
  obtain ⟨k, hk⟩ := run_of (F := F65) (args := [.ptr [.d (.sl (List.map (D.int .u8) s_.b)), .d (.int .i64 s_.e)], .d (.int .i64 n_)]) (ap := [.ptr [0] 0 0, .d (.int .i64 n_)]) (bx0 := updW (fun _ => none) [([0], some (.cells [.d (.sl (List.map (D.int .u8) s_.b)), .d (.int .i64 s_.e)] 0))]) rfl rfl (by kernel_rfl) ⟨p, ⟨hne, hf⟩, hr⟩
  exact lim_run (k := k) rfl hk
def index_Source_Byte_Q (s_ : Source) (r : (Int × Source)) (p : Out × St) : Prop := (∀ i, p.1 ≠ .exit i) ∧ finF F64 [.ptr [0] 0 0] p.2 = some (.d (.int .u8 r.1), [.ptr [.d (.sl (List.map (D.int .u8) r.2.b)), .d (.int .i64 r.2.e)]])
theorem index_Source_Byte_ok (s_ : Source) (r : (Int × Source)) (h : index_Source_Byte s_ = some r) : Runs L F64.body ⟨tmOf [.ptr [0] 0 0] 0, updW (fun _ => none) [([0], some (.cells [.d (.sl (List.map (D.int .u8) s_.b)), .d (.int .i64 s_.e)] 0))]⟩ (index_Source_Byte_Q s_ r) := by
  unfold index_Source_Byte at h
  refine Runs.seq ?_
  refine Runs.ops ?_
  refine RunAt.chunk 1 [⟨.d (.int .u8 0), []⟩] (by kernel_rfl) ?_
  refine RunAt.done (by kernel_rfl) ?_
  refine kS_nrm ?_
  refine Runs.seq ?_
  refine Runs.seq ?_
  refine Runs.ops ?_
  refine RunAt.chunk 1 [⟨.ptr [0] 0 0, []⟩] (by kernel_rfl) ?_
  obtain ⟨r_1, hr_1, h⟩ := bind_s h
  have hc_1 := index_Source_Take_L s_ 1 r_1 hr_1
  refine RunAt.cut (some 5) (.callf 65) [] none [.ptr [0] 0 0, .d (.int .i64 1)] (.d (.sl (List.map (D.int .u8) r_1.1))) [([0], some (.cells [.d (.sl (List.map (D.int .u8) r_1.2.b)), .d (.int .i64 r_1.2.e)] 0))] (by kernel_rfl) (by kernel_rfl) (by kernel_rfl) (cut_call (call_of (ws := []) (us := [([0], some (.cells [.d (.sl (List.map (D.int .u8) r_1.2.b)), .d (.int .i64 r_1.2.e)] 0))]) (by kernel_rfl) (by kernel_rfl) hc_1 (by kernel_rfl) (by kernel_rfl))) ?_
  refine RunAt.chunk 1 [⟨.d (.sl (List.map (D.int .u8) r_1.1)), []⟩] (by kernel_rfl) ?_
  refine RunAt.done (by kernel_rfl) ?_
  refine kS_nrm ?_
  refine Runs.seq ?_
  refine Runs.ops ?_
  refine RunAt.chunk 1 [⟨.d (.sl (List.map (D.int .u8) r_1.1)), []⟩] (by kernel_rfl) ?_
  refine RunAt.cut (some 7) .lenL [] none [.d (.sl (List.map (D.int .u8) r_1.1))] (.d (.int .i64 (r_1.1.length : Int))) [] (by kernel_rfl) (by kernel_rfl) (by kernel_rfl) (cut_len _) ?_
  refine RunAt.chunk 1 [⟨.d (.bool ((r_1.1.length : Int) == 1)), []⟩] (by kernel_rfl) ?_
  refine RunAt.done (by kernel_rfl) ?_
  refine kS_nrm ?_
  cases hb_1 : (((r_1.1.length : Int) == 1) : Bool) with
  | true =>
    replace h := ite_t hb_1 h
    refine Runs.cond_t (by kernel_rfl) ?_
    refine Runs.seq ?_
    refine Runs.ops ?_
    refine RunAt.chunk 1 [⟨.d (.sl (List.map (D.int .u8) r_1.1)), []⟩] (by kernel_rfl) ?_
    obtain ⟨z_1, hz_1, h⟩ := bind_s h
    refine RunAt.cut (some 10) (.iaddrS 1) [] none [.d (.sl (List.map (D.int .u8) r_1.1)), .d (.int .i64 0)] (.elt (.int .u8 z_1) 0) [] (by kernel_rfl) (by kernel_rfl) (by kernel_rfl) (cut_at hz_1 (fun _ => rfl)) ?_
    refine RunAt.chunk 2 [⟨.d (.int .u8 z_1), []⟩, ⟨.d (.int .u8 z_1), []⟩] (by kernel_rfl) ?_
    refine RunAt.done (by kernel_rfl) ?_
    refine kS_nrm ?_
    refine Runs.ret ?_
    refine kS_ret ?_
    obtain rfl := Option.some.inj h
    exact ⟨Out.ret_ne, (by kernel_rfl)⟩
  | false =>
    replace h := ite_f hb_1 h
    refine Runs.cond_f (by kernel_rfl) ?_
    refine Runs.skip ?_
    refine kS_nrm ?_
    refine Runs.seq ?_
    refine Runs.ops ?_
    refine RunAt.chunk 1 [⟨.d (.int .u8 0), []⟩] (by kernel_rfl) ?_
    refine RunAt.done (by kernel_rfl) ?_
    refine kS_nrm ?_
    refine Runs.ret ?_
    obtain rfl := Option.some.inj h
    exact ⟨Out.ret_ne, (by kernel_rfl)⟩
theorem index_Source_Byte_L (s_ : Source) (r : (Int × Source)) (h : index_Source_Byte s_ = some r) : L 64 [.ptr [.d (.sl (List.map (D.int .u8) s_.b)), .d (.int .i64 s_.e)]] = some (.d (.int .u8 r.1), [.ptr [.d (.sl (List.map (D.int .u8) r.2.b)), .d (.int .i64 r.2.e)]]) := by
  obtain ⟨p, ⟨hne, hf⟩, hr⟩ := index_Source_Byte_ok s_ r h
  obtain ⟨k, hk⟩ := run_of (F := F64) (args := [.ptr [.d (.sl (List.map (D.int .u8) s_.b)), .d (.int .i64 s_.e)]]) (ap := [.ptr [0] 0 0]) (bx0 := updW (fun _ => none) [([0], some (.cells [.d (.sl (List.map (D.int .u8) s_.b)), .d (.int .i64 s_.e)] 0))]) rfl rfl (by kernel_rfl) ⟨p, ⟨hne, hf⟩, hr⟩
  exact lim_run (k := k) rfl hk
def index_Source_Name_Q (s_ : Source) (r : ((List UInt8) × Source)) (p : Out × St) : Prop := (∀ i, p.1 ≠ .exit i) ∧ finF F62 [.ptr [0] 0 0] p.2 = some (.d (.str r.1), [.ptr [.d (.sl (List.map (D.int .u8) r.2.b)), .d (.int .i64 r.2.e)]])
theorem index_Source_Name_ok (s_ : Source) (r : ((List UInt8) × Source)) (h : index_Source_Name s_ = some r) : Runs L F62.body ⟨tmOf [.ptr [0] 0 0] 0, updW (fun _ => none) [([0], some (.cells [.d (.sl (List.map (D.int .u8) s_.b)), .d (.int .i64 s_.e)] 0))]⟩ (index_Source_Name_Q s_ r) := by
  unfold index_Source_Name at h
  refine Runs.seq ?_
  refine Runs.ops ?_
  refine RunAt.chunk 1 [⟨.d (.str ([] : List UInt8)), []⟩] (by kernel_rfl) ?_
  refine RunAt.done (by kernel_rfl) ?_
  refine kS_nrm ?_
  refine Runs.seq ?_
  refine Runs.ops ?_
  refine RunAt.chunk 2 [⟨.ptr [0] 0 0, []⟩, ⟨.ptr [0] 0 0, []⟩] (by kernel_rfl) ?_
  obtain ⟨r_1, hr_1, h⟩ := bind_s h
  have hc_1 := index_Source_Byte_L s_ r_1 hr_1
  refine RunAt.cut (some 5) (.callf 64) [] none [.ptr [0] 0 0] (.d (.int .u8 r_1.1)) [([0], some (.cells [.d (.sl (List.map (D.int .u8) r_1.2.b)), .d (.int .i64 r_1.2.e)] 0))] (by kernel_rfl) (by kernel_rfl) (by kernel_rfl) (cut_call (call_of (ws := []) (us := [([0], some (.cells [.d (.sl (List.map (D.int .u8) r_1.2.b)), .d (.int .i64 r_1.2.e)] 0))]) (by kernel_rfl) (by kernel_rfl) hc_1 (by kernel_rfl) (by kernel_rfl))) ?_
  refine RunAt.chunk 1 [⟨.d (.int .i64 (IntKind.wrap .i64 r_1.1)), []⟩] (by kernel_rfl) ?_
  obtain ⟨r_2, hr_2, h⟩ := bind_s h
  have hc_2 := index_Source_Take_L r_1.2 (IntKind.wrap .i64 r_1.1) r_2 hr_2
  refine RunAt.cut (some 7) (.callf 65) [] none [.ptr [0] 0 0, .d (.int .i64 (IntKind.wrap .i64 r_1.1))] (.d (.sl (List.map (D.int .u8) r_2.1))) [([0], some (.cells [.d (.sl (List.map (D.int .u8) r_2.2.b)), .d (.int .i64 r_2.2.e)] 0))] (by kernel_rfl) (by kernel_rfl) (by kernel_rfl) (cut_call (call_of (ws := []) (us := [([0], some (.cells [.d (.sl (List.map (D.int .u8) r_2.2.b)), .d (.int .i64 r_2.2.e)] 0))]) (by kernel_rfl) (by kernel_rfl) hc_2 (by kernel_rfl) (by kernel_rfl))) ?_
  refine RunAt.cut (some 8) .bytesStr [] none [.d (.sl (List.map (D.int .u8) r_2.1))] (.d (.str (b2s r_2.1))) [] (by kernel_rfl) (by kernel_rfl) (by kernel_rfl) (cut_bs _) ?_
  refine RunAt.chunk 1 [⟨.d (.str (b2s r_2.1)), []⟩] (by kernel_rfl) ?_
  refine RunAt.done (by kernel_rfl) ?_
  refine kS_nrm ?_
  refine Runs.ret ?_
  obtain rfl := Option.some.inj h
  exact ⟨Out.ret_ne, (by kernel_rfl)⟩
theorem index_Source_Name_L (s_ : Source) (r : ((List UInt8) × Source)) (h : index_Source_Name s_ = some r) : L 62 [.ptr [.d (.sl (List.map (D.int .u8) s_.b)), .d (.int .i64 s_.e)]] = some (.d (.str r.1), [.ptr [.d (.sl (List.map (D.int .u8) r.2.b)), .d (.int .i64 r.2.e)]]) := by
  obtain ⟨p, ⟨hne, hf⟩, hr⟩ := index_Source_Name_ok s_ r h
  obtain ⟨k, hk⟩ := run_of (F := F62) (args := [.ptr [.d (.sl (List.map (D.int .u8) s_.b)), .d (.int .i64 s_.e)]]) (ap := [.ptr [0] 0 0]) (bx0 := updW (fun _ => none) [([0], some (.cells [.d (.sl (List.map (D.int .u8) s_.b)), .d (.int .i64 s_.e)] 0))]) rfl rfl (by kernel_rfl) ⟨p, ⟨hne, hf⟩, hr⟩
  exact lim_run (k := k) rfl hk
def index_Source_Left_Q (s_ : Source) (r : Int) (p : Out × St) : Prop := (∀ i, p.1 ≠ .exit i) ∧ finF F66 [.ptr [0] 0 0] p.2 = some (.d (.int .i64 r), [.ptr [.d (.sl (List.map (D.int .u8) s_.b)), .d (.int .i64 s_.e)]])
theorem index_Source_Left_ok (s_ : Source) (r : Int) (h : index_Source_Left s_ = some r) : Runs L F66.body ⟨tmOf [.ptr [0] 0 0] 0, updW (fun _ => none) [([0], some (.cells [.d (.sl (List.map (D.int .u8) s_.b)), .d (.int .i64 s_.e)] 0))]⟩ (index_Source_Left_Q s_ r) := by
  unfold index_Source_Left at h
  refine Runs.seq ?_
  refine Runs.ops ?_
  refine RunAt.chunk 1 [⟨.d (.int .i64 0), []⟩] (by kernel_rfl) ?_
  refine RunAt.done (by kernel_rfl) ?_
  refine kS_nrm ?_
  refine Runs.seq ?_
  refine Runs.seq ?_
  refine Runs.ops ?_
  refine RunAt.chunk 2 [⟨.ptr [0] 0 0, []⟩, ⟨.d (.bool false), []⟩] (by kernel_rfl) ?_
  refine RunAt.done (by kernel_rfl) ?_
  refine kS_nrm ?_
  refine Runs.cond_f (by kernel_rfl) ?_
  refine Runs.skip ?_
  refine kS_nrm ?_
  refine Runs.seq ?_
  refine Runs.ops ?_
  refine RunAt.chunk 4 [⟨.ptr [0] 0 0, []⟩, ⟨.ptr [0] 0 0, []⟩, ⟨.ptr [0] 0 0, []⟩, ⟨.d (.sl (List.map (D.int .u8) s_.b)), []⟩] (by kernel_rfl) ?_
  refine RunAt.cut (some 9) .lenL [] none [.d (.sl (List.map (D.int .u8) s_.b))] (.d (.int .i64 (s_.b.length : Int))) [] (by kernel_rfl) (by kernel_rfl) (by kernel_rfl) (cut_len _) ?_
  refine RunAt.chunk 1 [⟨.d (.int .i64 (s_.b.length : Int)), []⟩] (by kernel_rfl) ?_
  refine RunAt.done (by kernel_rfl) ?_
  refine kS_nrm ?_
  refine Runs.ret ?_
  obtain rfl := Option.some.inj h
  exact ⟨Out.ret_ne, (by kernel_rfl)⟩
theorem index_Source_Left_L (s_ : Source) (r : Int) (h : index_Source_Left s_ = some r) : L 66 [.ptr [.d (.sl (List.map (D.int .u8) s_.b)), .d (.int .i64 s_.e)]] = some (.d (.int .i64 r), [.ptr [.d (.sl (List.map (D.int .u8) s_.b)), .d (.int .i64 s_.e)]]) := by
  obtain ⟨p, ⟨hne, hf⟩, hr⟩ := index_Source_Left_ok s_ r h
  obtain ⟨k, hk⟩ := run_of (F := F66) (args := [.ptr [.d (.sl (List.map (D.int .u8) s_.b)), .d (.int .i64 s_.e)]]) (ap := [.ptr [0] 0 0]) (bx0 := updW (fun _ => none) [([0], some (.cells [.d (.sl (List.map (D.int .u8) s_.b)), .d (.int .i64 s_.e)] 0))]) rfl rfl (by kernel_rfl) ⟨p, ⟨hne, hf⟩, hr⟩
  exact lim_run (k := k) rfl hk
def index_Source_Err_Q (s_ : Source) (r : Int) (p : Out × St) : Prop := (∀ i, p.1 ≠ .exit i) ∧ finF F67 [.ptr [0] 0 0] p.2 = some (.d (.int .i64 r), [.ptr [.d (.sl (List.map (D.int .u8) s_.b)), .d (.int .i64 s_.e)]])
theorem index_Source_Err_ok (s_ : Source) (r : Int) (h : index_Source_Err s_ = some r) : Runs L F67.body ⟨tmOf [.ptr [0] 0 0] 0, updW (fun _ => none) [([0], some (.cells [.d (.sl (List.map (D.int .u8) s_.b)), .d (.int .i64 s_.e)] 0))]⟩ (index_Source_Err_Q s_ r) := by
  unfold index_Source_Err at h
  refine Runs.seq ?_
  refine Runs.ops ?_
  refine RunAt.chunk 1 [⟨.d (.int .i64 0), []⟩] (by kernel_rfl) ?_
  refine RunAt.done (by kernel_rfl) ?_
  refine kS_nrm ?_
  refine Runs.seq ?_
  refine Runs.seq ?_
  refine Runs.ops ?_
  refine RunAt.chunk 2 [⟨.ptr [0] 0 0, []⟩, ⟨.d (.bool false), []⟩] (by kernel_rfl) ?_
  refine RunAt.done (by kernel_rfl) ?_
  refine kS_nrm ?_
  refine Runs.cond_f (by kernel_rfl) ?_
  refine Runs.skip ?_
  refine kS_nrm ?_
  refine Runs.seq ?_
  refine Runs.ops ?_
  refine RunAt.chunk 5 [⟨.ptr [0] 0 0, []⟩, ⟨.ptr [0] 0 0, []⟩, ⟨.ptr [0] 0 1, []⟩, ⟨.d (.int .i64 s_.e), []⟩, ⟨.d (.int .i64 s_.e), []⟩] (by kernel_rfl) ?_
  refine RunAt.done (by kernel_rfl) ?_
  refine kS_nrm ?_
  refine Runs.ret ?_
  obtain rfl := Option.some.inj h
  exact ⟨Out.ret_ne, (by kernel_rfl)⟩
theorem index_Source_Err_L (s_ : Source) (r : Int) (h : index_Source_Err s_ = some r) : L 67 [.ptr [.d (.sl (List.map (D.int .u8) s_.b)), .d (.int .i64 s_.e)]] = some (.d (.int .i64 r), [.ptr [.d (.sl (List.map (D.int .u8) s_.b)), .d (.int .i64 s_.e)]]) := by
  obtain ⟨p, ⟨hne, hf⟩, hr⟩ := index_Source_Err_ok s_ r h
  obtain ⟨k, hk⟩ := run_of (F := F67) (args := [.ptr [.d (.sl (List.map (D.int .u8) s_.b)), .d (.int .i64 s_.e)]]) (ap := [.ptr [0] 0 0]) (bx0 := updW (fun _ => none) [([0], some (.cells [.d (.sl (List.map (D.int .u8) s_.b)), .d (.int .i64 s_.e)] 0))]) rfl rfl (by kernel_rfl) ⟨p, ⟨hne, hf⟩, hr⟩
  exact lim_run (k := k) rfl hk
def index_Source_End_Q (s_ : Source) (r : (Int × Source)) (p : Out × St) : Prop := (∀ i, p.1 ≠ .exit i) ∧ finF F63 [.ptr [0] 0 0] p.2 = some (.d (.int .i64 r.1), [.ptr [.d (.sl (List.map (D.int .u8) r.2.b)), .d (.int .i64 r.2.e)]])
theorem index_Source_End_ok (s_ : Source) (r : (Int × Source)) (h : index_Source_End s_ = some r) : Runs L F63.body ⟨tmOf [.ptr [0] 0 0] 0, updW (fun _ => none) [([0], some (.cells [.d (.sl (List.map (D.int .u8) s_.b)), .d (.int .i64 s_.e)] 0))]⟩ (index_Source_End_Q s_ r) := by
  unfold index_Source_End at h
  refine Runs.seq ?_
  refine Runs.ops ?_
  refine RunAt.chunk 1 [⟨.d (.int .i64 0), []⟩] (by kernel_rfl) ?_
  refine RunAt.done (by kernel_rfl) ?_
  refine kS_nrm ?_
  refine Runs.seq ?_
  refine Runs.seq ?_
  refine Runs.ops ?_
  refine RunAt.chunk 1 [⟨.ptr [0] 0 0, []⟩] (by kernel_rfl) ?_
  obtain ⟨r_1, hr_1, h⟩ := bind_s h
  have hc_1 := index_Source_Left_L s_ r_1 hr_1
  refine RunAt.cut (some 4) (.callf 66) [] none [.ptr [0] 0 0] (.d (.int .i64 r_1)) [([0], some (.cells [.d (.sl (List.map (D.int .u8) s_.b)), .d (.int .i64 s_.e)] 0))] (by kernel_rfl) (by kernel_rfl) (by kernel_rfl) (cut_call (call_of (ws := []) (us := [([0], some (.cells [.d (.sl (List.map (D.int .u8) s_.b)), .d (.int .i64 s_.e)] 0))]) (by kernel_rfl) (by kernel_rfl) hc_1 (by kernel_rfl) (by kernel_rfl))) ?_
  refine RunAt.chunk 1 [⟨.d (.bool (decide (r_1 > 0))), []⟩] (by kernel_rfl) ?_
  refine RunAt.done (by kernel_rfl) ?_
  refine kS_nrm ?_
  cases hb_1 : ((decide (r_1 > 0)) : Bool) with
  | true =>
    replace h := ite_t hb_1 h
    refine Runs.cond_t (by kernel_rfl) ?_
    refine Runs.ops ?_
    refine RunAt.chunk 1 [⟨.ptr [0] 0 0, []⟩] (by kernel_rfl) ?_
    obtain ⟨r_2, hr_2, h⟩ := bind_s h
    have hc_2 := index_Source_Wrong_L s_ 3 r_2 hr_2
    refine RunAt.cut (some 7) (.callf 79) [] none [.ptr [0] 0 0, .d (.int .i64 3)] (.tup []) [([0], some (.cells [.d (.sl (List.map (D.int .u8) r_2.b)), .d (.int .i64 r_2.e)] 0))] (by kernel_rfl) (by kernel_rfl) (by kernel_rfl) (cut_call (call_of (ws := []) (us := [([0], some (.cells [.d (.sl (List.map (D.int .u8) r_2.b)), .d (.int .i64 r_2.e)] 0))]) (by kernel_rfl) (by kernel_rfl) hc_2 (by kernel_rfl) (by kernel_rfl))) ?_
    refine RunAt.done (by kernel_rfl) ?_
    refine kS_nrm ?_
    refine Runs.seq ?_
    refine Runs.ops ?_
    refine RunAt.chunk 1 [⟨.ptr [0] 0 0, []⟩] (by kernel_rfl) ?_
    obtain ⟨r_3, hr_3, h⟩ := bind_s h
    have hc_3 := index_Source_Err_L r_2 r_3 hr_3
    refine RunAt.cut (some 9) (.callf 67) [] none [.ptr [0] 0 0] (.d (.int .i64 r_3)) [([0], some (.cells [.d (.sl (List.map (D.int .u8) r_2.b)), .d (.int .i64 r_2.e)] 0))] (by kernel_rfl) (by kernel_rfl) (by kernel_rfl) (cut_call (call_of (ws := []) (us := [([0], some (.cells [.d (.sl (List.map (D.int .u8) r_2.b)), .d (.int .i64 r_2.e)] 0))]) (by kernel_rfl) (by kernel_rfl) hc_3 (by kernel_rfl) (by kernel_rfl))) ?_
    refine RunAt.chunk 1 [⟨.d (.int .i64 r_3), []⟩] (by kernel_rfl) ?_
    refine RunAt.done (by kernel_rfl) ?_
    refine kS_nrm ?_
    refine Runs.ret ?_
    obtain rfl := Option.some.inj h
    exact ⟨Out.ret_ne, (by kernel_rfl)⟩
  | false =>
    replace h := ite_f hb_1 h
    refine Runs.cond_f (by kernel_rfl) ?_
    refine Runs.skip ?_
    refine kS_nrm ?_
    refine Runs.seq ?_
    refine Runs.ops ?_
    refine RunAt.chunk 1 [⟨.ptr [0] 0 0, []⟩] (by kernel_rfl) ?_
    obtain ⟨r_4, hr_4, h⟩ := bind_s h
    have hc_4 := index_Source_Err_L s_ r_4 hr_4
    refine RunAt.cut (some 9) (.callf 67) [] none [.ptr [0] 0 0] (.d (.int .i64 r_4)) [([0], some (.cells [.d (.sl (List.map (D.int .u8) s_.b)), .d (.int .i64 s_.e)] 0))] (by kernel_rfl) (by kernel_rfl) (by kernel_rfl) (cut_call (call_of (ws := []) (us := [([0], some (.cells [.d (.sl (List.map (D.int .u8) s_.b)), .d (.int .i64 s_.e)] 0))]) (by kernel_rfl) (by kernel_rfl) hc_4 (by kernel_rfl) (by kernel_rfl))) ?_
    refine RunAt.chunk 1 [⟨.d (.int .i64 r_4), []⟩] (by kernel_rfl) ?_
    refine RunAt.done (by kernel_rfl) ?_
    refine kS_nrm ?_
    refine Runs.ret ?_
    obtain rfl := Option.some.inj h
    exact ⟨Out.ret_ne, (by kernel_rfl)⟩
theorem index_Source_End_L (s_ : Source) (r : (Int × Source)) (h : index_Source_End s_ = some r) : L 63 [.ptr [.d (.sl (List.map (D.int .u8) s_.b)), .d (.int .i64 s_.e)]] = some (.d (.int .i64 r.1), [.ptr [.d (.sl (List.map (D.int .u8) r.2.b)), .d (.int .i64 r.2.e)]]) := by
  obtain ⟨p, ⟨hne, hf⟩, hr⟩ := index_Source_End_ok s_ r h
  obtain ⟨k, hk⟩ := run_of (F := F63) (args := [.ptr [.d (.sl (List.map (D.int .u8) s_.b)), .d (.int .i64 s_.e)]]) (ap := [.ptr [0] 0 0]) (bx0 := updW (fun _ => none) [([0], some (.cells [.d (.sl (List.map (D.int .u8) s_.b)), .d (.int .i64 s_.e)] 0))]) rfl rfl (by kernel_rfl) ⟨p, ⟨hne, hf⟩, hr⟩
  exact lim_run (k := k) rfl hk
def names_Name_Q (b_ : (List Int)) (r : ((List UInt8) × Int)) (p : Out × St) : Prop := (∀ i, p.1 ≠ .exit i) ∧ finF F35 [.d (.sl (List.map (D.int .u8) b_))] p.2 = some (.tup [.d (.str r.1), .d (.int .i64 r.2)], [.d (.sl (List.map (D.int .u8) b_))])
theorem names_Name_ok (b_ : (List Int)) (r : ((List UInt8) × Int)) (h : names_Name b_ = some r) : Runs L F35.body ⟨tmOf [.d (.sl (List.map (D.int .u8) b_))] 0, updW (fun _ => none) []⟩ (names_Name_Q b_ r) := by
  unfold names_Name at h
  refine Runs.seq ?_
  refine Runs.ops ?_
  refine RunAt.chunk 2 [⟨.d (.str ([] : List UInt8)), []⟩, ⟨.d (.int .i64 0), []⟩] (by kernel_rfl) ?_
  refine RunAt.done (by kernel_rfl) ?_
  refine kS_nrm ?_
  refine Runs.seq ?_
  refine Runs.ops ?_
  refine RunAt.chunk 1 [⟨.d (.sl (List.map (D.int .u8) b_)), []⟩] (by kernel_rfl) ?_
  obtain ⟨r_1, hr_1, h⟩ := bind_s h
  have hc_1 := index_From_L b_ r_1 hr_1
  refine RunAt.cut (some 8) (.callf 61) [] none [.d (.sl (List.map (D.int .u8) b_))] (.ptr [8] 0 0) [([8], some (.cells [.d (.sl (List.map (D.int .u8) r_1.b)), .d (.int .i64 r_1.e)] 0))] (by kernel_rfl) (by kernel_rfl) (by kernel_rfl) (cut_call (call_of (ws := []) (us := []) (by kernel_rfl) (by kernel_rfl) hc_1 (by kernel_rfl) (by kernel_rfl))) ?_
  refine RunAt.chunk 1 [⟨.ptr [8] 0 0, []⟩] (by kernel_rfl) ?_
  refine RunAt.done (by kernel_rfl) ?_
  refine kS_nrm ?_
  refine Runs.seq ?_
  refine Runs.ops ?_
  refine RunAt.chunk 1 [⟨.ptr [8] 0 0, []⟩] (by kernel_rfl) ?_
  obtain ⟨r_2, hr_2, h⟩ := bind_s h
  have hc_2 := index_Source_Name_L r_1 r_2 hr_2
  refine RunAt.cut (some 10) (.callf 62) [] none [.ptr [8] 0 0] (.d (.str r_2.1)) [([8], some (.cells [.d (.sl (List.map (D.int .u8) r_2.2.b)), .d (.int .i64 r_2.2.e)] 0))] (by kernel_rfl) (by kernel_rfl) (by kernel_rfl) (cut_call (call_of (ws := []) (us := [([8], some (.cells [.d (.sl (List.map (D.int .u8) r_2.2.b)), .d (.int .i64 r_2.2.e)] 0))]) (by kernel_rfl) (by kernel_rfl) hc_2 (by kernel_rfl) (by kernel_rfl))) ?_
  refine RunAt.chunk 1 [⟨.d (.str r_2.1), []⟩] (by kernel_rfl) ?_
  refine RunAt.done (by kernel_rfl) ?_
  refine kS_nrm ?_
  refine Runs.seq ?_
  refine Runs.seq ?_
  refine Runs.ops ?_
  refine RunAt.chunk 1 [⟨.ptr [8] 0 0, []⟩] (by kernel_rfl) ?_
  obtain ⟨r_3, hr_3, h⟩ := bind_s h
  have hc_3 := index_Source_End_L r_2.2 r_3 hr_3
  refine RunAt.cut (some 12) (.callf 63) [] none [.ptr [8] 0 0] (.d (.int .i64 r_3.1)) [([8], some (.cells [.d (.sl (List.map (D.int .u8) r_3.2.b)), .d (.int .i64 r_3.2.e)] 0))] (by kernel_rfl) (by kernel_rfl) (by kernel_rfl) (cut_call (call_of (ws := []) (us := [([8], some (.cells [.d (.sl (List.map (D.int .u8) r_3.2.b)), .d (.int .i64 r_3.2.e)] 0))]) (by kernel_rfl) (by kernel_rfl) hc_3 (by kernel_rfl) (by kernel_rfl))) ?_
  refine RunAt.chunk 1 [⟨.d (.int .i64 r_3.1), []⟩] (by kernel_rfl) ?_
  refine RunAt.done (by kernel_rfl) ?_
  refine kS_nrm ?_
  refine Runs.seq ?_
  refine Runs.ops ?_
  refine RunAt.chunk 2 [⟨.d (.int .i64 r_3.1), []⟩, ⟨.d (.bool (r_3.1 != 0)), []⟩] (by kernel_rfl) ?_
  refine RunAt.done (by kernel_rfl) ?_
  refine kS_nrm ?_
  cases hb_1 : ((r_3.1 != 0) : Bool) with
  | true =>
    replace h := ite_t hb_1 h
    refine Runs.cond_t (by kernel_rfl) ?_
    refine Runs.seq ?_
    refine Runs.ops ?_
    refine RunAt.chunk 3 [⟨.d (.int .i64 r_3.1), []⟩, ⟨.d (.str ([] : List UInt8)), []⟩, ⟨.d (.int .i64 r_3.1), []⟩] (by kernel_rfl) ?_
    refine RunAt.done (by kernel_rfl) ?_
    refine kS_nrm ?_
    refine Runs.ret ?_
    refine kS_ret ?_
    obtain rfl := Option.some.inj h
    exact ⟨Out.ret_ne, (by kernel_rfl)⟩
  | false =>
    replace h := ite_f hb_1 h
    refine Runs.cond_f (by kernel_rfl) ?_
    refine Runs.skip ?_
    refine kS_nrm ?_
    refine Runs.seq ?_
    refine Runs.ops ?_
    refine RunAt.chunk 3 [⟨.d (.str r_2.1), []⟩, ⟨.d (.str r_2.1), []⟩, ⟨.d (.int .i64 0), []⟩] (by kernel_rfl) ?_
    refine RunAt.done (by kernel_rfl) ?_
    refine kS_nrm ?_
    refine Runs.ret ?_
    obtain rfl := Option.some.inj h
    exact ⟨Out.ret_ne, (by kernel_rfl)⟩
theorem names_Name_L (b_ : (List Int)) (r : ((List UInt8) × Int)) (h : names_Name b_ = some r) : L 35 [.d (.sl (List.map (D.int .u8) b_))] = some (.tup [.d (.str r.1), .d (.int .i64 r.2)], [.d (.sl (List.map (D.int .u8) b_))]) := by
  obtain ⟨p, ⟨hne, hf⟩, hr⟩ := names_Name_ok b_ r h
  obtain ⟨k, hk⟩ := run_of (F := F35) (args := [.d (.sl (List.map (D.int .u8) b_))]) (ap := [.d (.sl (List.map (D.int .u8) b_))]) (bx0 := updW (fun _ => none) []) rfl rfl (by kernel_rfl) ⟨p, ⟨hne, hf⟩, hr⟩
  exact lim_run (k := k) rfl hk
def hansomlaw20_awake_Q  (r : Bool) (p : Out × St) : Prop := (∀ i, p.1 ≠ .exit i) ∧ finF F36 [] p.2 = some (.d (.bool r), [])
theorem hansomlaw20_awake_ok  (r : Bool) (h : hansomlaw20_awake = some r) : Runs L F36.body ⟨tmOf [] 0, updW (fun _ => none) []⟩ (hansomlaw20_awake_Q  r) := by
  unfold hansomlaw20_awake at h
  refine Runs.seq ?_
  refine Runs.ops ?_
  refine RunAt.chunk 1 [⟨.d (.bool false), []⟩] (by kernel_rfl) ?_
  refine RunAt.done (by kernel_rfl) ?_
  refine kS_nrm ?_
  refine Runs.seq ?_
  refine Runs.ops ?_
  obtain ⟨r_1, hr_1, h⟩ := bind_s h
  have hc_1 := names_Header_L ([65, 66] : List UInt8) r_1 hr_1
  refine RunAt.cut (some 4) (.callf 34) [] none [.d (.str ([65, 66] : List UInt8))] (.d (Record.d r_1)) [] (by kernel_rfl) (by kernel_rfl) (by kernel_rfl) (cut_call (call_of (ws := []) (us := []) (by kernel_rfl) (by kernel_rfl) hc_1 (by kernel_rfl) (by kernel_rfl))) ?_
  refine RunAt.chunk 1 [⟨.d (.sl (List.map (D.int .u8) r_1.Body)), []⟩] (by kernel_rfl) ?_
  obtain ⟨r_2, hr_2, h⟩ := bind_s h
  have hc_2 := names_Name_L r_1.Body r_2 hr_2
  refine RunAt.cut (some 6) (.callf 35) [] none [.d (.sl (List.map (D.int .u8) r_1.Body))] (.tup [.d (.str r_2.1), .d (.int .i64 r_2.2)]) [] (by kernel_rfl) (by kernel_rfl) (by kernel_rfl) (cut_call (call_of (ws := []) (us := []) (by kernel_rfl) (by kernel_rfl) hc_2 (by kernel_rfl) (by kernel_rfl))) ?_
  refine RunAt.chunk 5 [⟨.tup [.d (.str r_2.1), .d (.int .i64 r_2.2)], []⟩, ⟨.d (.str r_2.1), []⟩, ⟨.d (.int .i64 r_2.2), []⟩, ⟨.d (.str r_2.1), []⟩, ⟨.d (.int .i64 r_2.2), []⟩] (by kernel_rfl) ?_
  refine RunAt.done (by kernel_rfl) ?_
  refine kS_nrm ?_
  refine Runs.seq ?_
  refine Runs.ops ?_
  refine RunAt.chunk 3 [⟨.d (.int .i64 r_2.2), []⟩, ⟨.d (.bool (r_2.2 == 0)), []⟩, ⟨.d (.bool (r_2.2 == 0)), []⟩] (by kernel_rfl) ?_
  cases hb_1 : ((r_2.2 == 0) : Bool) with
  | true =>
    replace h := ite_t hb_1 h
    refine RunAt.chunk 4 [⟨.d (.str r_2.1), []⟩, ⟨.d (.bool (r_2.1 == ([65, 66] : List UInt8))), []⟩, ⟨.d (.bool (r_2.1 == ([65, 66] : List UInt8))), []⟩, ⟨.d (.bool (r_2.1 == ([65, 66] : List UInt8))), []⟩] (by kernel_rfl) ?_
    cases hb_2 : ((r_2.1 == ([65, 66] : List UInt8)) : Bool) with
    | true =>
      replace h := ite_t hb_2 h
      obtain ⟨r_3, hr_3, h⟩ := bind_s h
      have hc_3 := names_Header_L ([65, 66] : List UInt8) r_3 hr_3
      refine RunAt.cut (some 16) (.callf 34) [] none [.d (.str ([65, 66] : List UInt8))] (.d (Record.d r_3)) [] (by kernel_rfl) (by kernel_rfl) (by kernel_rfl) (cut_call (call_of (ws := []) (us := []) (by kernel_rfl) (by kernel_rfl) hc_3 (by kernel_rfl) (by kernel_rfl))) ?_
      refine RunAt.chunk 4 [⟨.d (.int .u8 r_3.Kind), []⟩, ⟨.d (.bool (r_3.Kind == 128)), []⟩, ⟨.d (.bool (r_3.Kind == 128)), []⟩, ⟨.d (.bool (r_3.Kind == 128)), []⟩] (by kernel_rfl) ?_
      refine RunAt.done (by kernel_rfl) ?_
      refine kS_nrm ?_
      refine Runs.ret ?_
      obtain rfl := Option.some.inj h
      exact ⟨Out.ret_ne, (by kernel_rfl)⟩
    | false =>
      replace h := ite_f hb_2 h
      refine RunAt.chunk 5 [⟨.tup [], []⟩, ⟨.tup [], []⟩, ⟨.tup [], []⟩, ⟨.d (.bool false), []⟩, ⟨.d (.bool false), []⟩] (by kernel_rfl) ?_
      refine RunAt.done (by kernel_rfl) ?_
      refine kS_nrm ?_
      refine Runs.ret ?_
      obtain rfl := Option.some.inj h
      exact ⟨Out.ret_ne, (by kernel_rfl)⟩
  | false =>
    replace h := ite_f hb_1 h
    refine RunAt.chunk 9 [⟨.tup [], []⟩, ⟨.tup [], []⟩, ⟨.d (.bool false), []⟩, ⟨.d (.bool false), []⟩, ⟨.tup [], []⟩, ⟨.tup [], []⟩, ⟨.tup [], []⟩, ⟨.d (.bool false), []⟩, ⟨.d (.bool false), []⟩] (by kernel_rfl) ?_
    refine RunAt.done (by kernel_rfl) ?_
    refine kS_nrm ?_
    refine Runs.ret ?_
    obtain rfl := Option.some.inj h
    exact ⟨Out.ret_ne, (by kernel_rfl)⟩
theorem hansomlaw20_awake_L  (r : Bool) (h : hansomlaw20_awake = some r) : L 36 [] = some (.d (.bool r), []) := by
  obtain ⟨p, ⟨hne, hf⟩, hr⟩ := hansomlaw20_awake_ok  r h
  obtain ⟨k, hk⟩ := run_of (F := F36) (args := []) (ap := []) (bx0 := updW (fun _ => none) []) rfl rfl (by kernel_rfl) ⟨p, ⟨hne, hf⟩, hr⟩
  exact lim_run (k := k) rfl hk
def hansomref18_Name_Q (s_ : (List UInt8)) (r : (List UInt8)) (p : Out × St) : Prop := (∀ i, p.1 ≠ .exit i) ∧ finF F37 [.d (.str s_)] p.2 = some (.d (.str r), [.d (.str s_)])
theorem hansomref18_Name_ok (s_ : (List UInt8)) (r : (List UInt8)) (h : hansomref18_Name s_ = some r) : Runs L F37.body ⟨tmOf [.d (.str s_)] 0, updW (fun _ => none) []⟩ (hansomref18_Name_Q s_ r) := by
  unfold hansomref18_Name at h
  refine Runs.seq ?_
  refine Runs.ops ?_
  refine RunAt.chunk 1 [⟨.d (.str ([] : List UInt8)), []⟩] (by kernel_rfl) ?_
  refine RunAt.done (by kernel_rfl) ?_
  refine kS_nrm ?_
  refine Runs.seq ?_
  refine Runs.seq ?_
  refine Runs.ops ?_
  refine RunAt.chunk 1 [⟨.d (.str s_), []⟩] (by kernel_rfl) ?_
  refine RunAt.cut (some 4) .lenS [] none [.d (.str s_)] (.d (.int .i64 (s_.length : Int))) [] (by kernel_rfl) (by kernel_rfl) (by kernel_rfl) (cut_lenS _) ?_
  refine RunAt.chunk 1 [⟨.d (.bool (decide ((s_.length : Int) > 255))), []⟩] (by kernel_rfl) ?_
  refine RunAt.done (by kernel_rfl) ?_
  refine kS_nrm ?_
  cases hb_1 : ((decide ((s_.length : Int) > 255)) : Bool) with
  | true =>
    replace h := ite_t hb_1 h
    refine Runs.cond_t (by kernel_rfl) ?_
    refine Runs.ops ?_
    refine RunAt.chunk 1 [⟨.d (.str s_), []⟩] (by kernel_rfl) ?_
    obtain ⟨z_1, hz_1, h⟩ := bind_s h
    refine RunAt.cut (some 7) (.substr false true) [] none [.d (.str s_), .d (.int .i64 255)] (.d (.str z_1)) [] (by kernel_rfl) (by kernel_rfl) (by kernel_rfl) (cut_strFT hz_1) ?_
    refine RunAt.chunk 1 [⟨.d (.str z_1), []⟩] (by kernel_rfl) ?_
    refine RunAt.done (by kernel_rfl) ?_
    refine kS_nrm ?_
    refine Runs.seq ?_
    refine Runs.ops ?_
    refine RunAt.chunk 1 [⟨.d (.str z_1), []⟩] (by kernel_rfl) ?_
    refine RunAt.cut (some 9) .lenS [] none [.d (.str z_1)] (.d (.int .i64 (z_1.length : Int))) [] (by kernel_rfl) (by kernel_rfl) (by kernel_rfl) (cut_lenS _) ?_
    refine RunAt.chunk 2 [⟨.d (.int .u8 (IntKind.wrap .u8 (z_1.length : Int))), []⟩, ⟨.ref [11] 0 0 (List.map (D.int .u8) ([(IntKind.wrap .u8 (z_1.length : Int))] : List Int)).length 1, [([11], some (.arr (List.map (D.int .u8) ([(IntKind.wrap .u8 (z_1.length : Int))] : List Int)) 0 false))]⟩] (by kernel_rfl) ?_
    refine RunAt.cut (some 12) .bytesStr [] none [.ref [11] 0 0 (List.map (D.int .u8) ([(IntKind.wrap .u8 (z_1.length : Int))] : List Int)).length 1] (.d (.str (b2s ([(IntKind.wrap .u8 (z_1.length : Int))] : List Int)))) [] (by kernel_rfl) (by kernel_rfl) (by kernel_rfl) (cut_bsR (l := ([(IntKind.wrap .u8 (z_1.length : Int))] : List Int)) (fz := false) (by kernel_rfl) (by kernel_rfl) rfl) ?_
    refine RunAt.chunk 1 [⟨.d (.str z_1), []⟩] (by kernel_rfl) ?_
    obtain ⟨z_2, hz_2, h⟩ := bind_s h
    refine RunAt.cut (some 14) (.bin .add) [] none [.d (.str (b2s ([(IntKind.wrap .u8 (z_1.length : Int))] : List Int))), .d (.str z_1)] (.d (.str z_2)) [] (by kernel_rfl) (by kernel_rfl) (by kernel_rfl) (cut_cat hz_2) ?_
    refine RunAt.chunk 1 [⟨.d (.str z_2), []⟩] (by kernel_rfl) ?_
    refine RunAt.done (by kernel_rfl) ?_
    refine kS_nrm ?_
    refine Runs.ret ?_
    obtain rfl := Option.some.inj h
    exact ⟨Out.ret_ne, (by kernel_rfl)⟩
  | false =>
    replace h := ite_f hb_1 h
    refine Runs.cond_f (by kernel_rfl) ?_
    refine Runs.skip ?_
    refine kS_nrm ?_
    refine Runs.seq ?_
    refine Runs.ops ?_
    refine RunAt.chunk 1 [⟨.d (.str s_), []⟩] (by kernel_rfl) ?_
    refine RunAt.cut (some 9) .lenS [] none [.d (.str s_)] (.d (.int .i64 (s_.length : Int))) [] (by kernel_rfl) (by kernel_rfl) (by kernel_rfl) (cut_lenS _) ?_
    refine RunAt.chunk 2 [⟨.d (.int .u8 (IntKind.wrap .u8 (s_.length : Int))), []⟩, ⟨.ref [11] 0 0 (List.map (D.int .u8) ([(IntKind.wrap .u8 (s_.length : Int))] : List Int)).length 1, [([11], some (.arr (List.map (D.int .u8) ([(IntKind.wrap .u8 (s_.length : Int))] : List Int)) 0 false))]⟩] (by kernel_rfl) ?_
    refine RunAt.cut (some 12) .bytesStr [] none [.ref [11] 0 0 (List.map (D.int .u8) ([(IntKind.wrap .u8 (s_.length : Int))] : List Int)).length 1] (.d (.str (b2s ([(IntKind.wrap .u8 (s_.length : Int))] : List Int)))) [] (by kernel_rfl) (by kernel_rfl) (by kernel_rfl) (cut_bsR (l := ([(IntKind.wrap .u8 (s_.length : Int))] : List Int)) (fz := false) (by kernel_rfl) (by kernel_rfl) rfl) ?_
    refine RunAt.chunk 1 [⟨.d (.str s_), []⟩] (by kernel_rfl) ?_
    obtain ⟨z_3, hz_3, h⟩ := bind_s h
    refine RunAt.cut (some 14) (.bin .add) [] none [.d (.str (b2s ([(IntKind.wrap .u8 (s_.length : Int))] : List Int))), .d (.str s_)] (.d (.str z_3)) [] (by kernel_rfl) (by kernel_rfl) (by kernel_rfl) (cut_cat hz_3) ?_
    refine RunAt.chunk 1 [⟨.d (.str z_3), []⟩] (by kernel_rfl) ?_
    refine RunAt.done (by kernel_rfl) ?_
    refine kS_nrm ?_
    refine Runs.ret ?_
    obtain rfl := Option.some.inj h
    exact ⟨Out.ret_ne, (by kernel_rfl)⟩
theorem hansomref18_Name_L (s_ : (List UInt8)) (r : (List UInt8)) (h : hansomref18_Name s_ = some r) : L 37 [.d (.str s_)] = some (.d (.str r), [.d (.str s_)]) := by
  obtain ⟨p, ⟨hne, hf⟩, hr⟩ := hansomref18_Name_ok s_ r h
  obtain ⟨k, hk⟩ := run_of (F := F37) (args := [.d (.str s_)]) (ap := [.d (.str s_)]) (bx0 := updW (fun _ => none) []) rfl rfl (by kernel_rfl) ⟨p, ⟨hne, hf⟩, hr⟩
  exact lim_run (k := k) rfl hk
def hansomlaw20_NamesHeader_h28 (r6 : Record) (more1 : (List UInt8)) (t5 : (List UInt8)) (n7 : (List UInt8)) (e8 : Int) (f10 : Int) (g12 : Int) (want13 : Int) : St := ⟨tab [(1, .d (.str more1)), (5, .d (.str t5)), (6, .ptr [6] 0 0), (7, .d (.str n7)), (8, .d (.int .i64 e8)), (10, .d (.int .i64 f10)), (12, .d (.int .i64 g12)), (13, .d (.int .i64 want13))], tabB [([6], some (.cells [.d (.int .u8 r6.Kind), .d (.sl (List.map (D.int .u8) r6.Body))] 0))]⟩
def hansomlaw20_NamesHeader_Q (s_ : (List UInt8)) (more_ : (List UInt8)) (r : Bool) (p : Out × St) : Prop := (∀ i, p.1 ≠ .exit i) ∧ finF F8 [.d (.str s_), .d (.str more_)] p.2 = some (.d (.bool r), [.d (.str s_), .d (.str more_)])
theorem hansomlaw20_NamesHeader_j28_ok (s_ : (List UInt8)) (more_ : (List UInt8)) (r6 : Record) (more1 : (List UInt8)) (t5 : (List UInt8)) (n7 : (List UInt8)) (e8 : Int) (f10 : Int) (g12 : Int) (want13 : Int) (r : Bool) (h : hansomlaw20_NamesHeader_j28 r6 more1 t5 n7 e8 f10 g12 want13 = some r) : Runs L F8b28 (hansomlaw20_NamesHeader_h28 r6 more1 t5 n7 e8 f10 g12 want13) (hansomlaw20_NamesHeader_Q s_ more_ r) := by
  unfold hansomlaw20_NamesHeader_j28 at h
  refine Runs.seq ?_
  refine Runs.ops ?_
  obtain ⟨r_5, hr_5, h⟩ := bind_s h
  have hc_5 := names_Name_L ([] : List Int) r_5 hr_5
  refine RunAt.cut (some 62) (.callf 35) [] none [.nils] (.tup [.d (.str r_5.1), .d (.int .i64 r_5.2)]) [] (by kernel_rfl) (by kernel_rfl) (by kernel_rfl) (cut_call (call_of (ws := []) (us := []) (by kernel_rfl) (gives_cons (ws := []) (give_same (by kernel_rfl)) gives_nil) hc_5 (by kernel_rfl) (by kernel_rfl))) ?_
  refine RunAt.chunk 5 [⟨.tup [.d (.str r_5.1), .d (.int .i64 r_5.2)], []⟩, ⟨.d (.str r_5.1), []⟩, ⟨.d (.int .i64 r_5.2), []⟩, ⟨.d (.str r_5.1), []⟩, ⟨.d (.int .i64 r_5.2), []⟩] (by kernel_rfl) ?_
  refine RunAt.done (by kernel_rfl) ?_
  refine kS_nrm ?_
  refine Runs.seq ?_
  refine Runs.ops ?_
  obtain ⟨r_6, hr_6, h⟩ := bind_s h
  have hc_6 := hansomlaw20_awake_L r_6 hr_6
  refine RunAt.cut (some 65) (.callf 36) [] none [] (.d (.bool r_6)) [] (by kernel_rfl) (by kernel_rfl) (by kernel_rfl) (cut_call (call_of (ws := []) (us := []) (by kernel_rfl) (by kernel_rfl) hc_6 (by kernel_rfl) (by kernel_rfl))) ?_
  refine RunAt.chunk 1 [⟨.d (.bool r_6), []⟩] (by kernel_rfl) ?_
  cases hb_3 : (r_6 : Bool) with
  | true =>
    replace h := ite_t hb_3 h
    refine RunAt.chunk 2 [⟨.ptr [6] 0 1, []⟩, ⟨.d (.sl (List.map (D.int .u8) r6.Body)), []⟩] (by kernel_rfl) ?_
    refine RunAt.cut (some 69) .bytesStr [[71]] none [.d (.sl (List.map (D.int .u8) r6.Body))] (.d (.str (b2s r6.Body))) [] (by kernel_rfl) (by kernel_rfl) (by kernel_rfl) (cut_bs _) ?_
    refine RunAt.chunk 1 [⟨.d (.str t5), []⟩] (by kernel_rfl) ?_
    obtain ⟨r_7, hr_7, h⟩ := bind_s h
    have hc_7 := hansomref18_Name_L t5 r_7 hr_7
    refine RunAt.cut (some 71) (.callf 37) [] (some []) [.d (.str t5)] (.d (.str r_7)) [] (by kernel_rfl) (by kernel_rfl) (by kernel_rfl) (cut_call (call_of (ws := []) (us := []) (by kernel_rfl) (by kernel_rfl) hc_7 (by kernel_rfl) (by kernel_rfl))) ?_
    refine RunAt.chunk 3 [⟨.d (.bool ((b2s r6.Body) == r_7)), []⟩, ⟨.d (.bool ((b2s r6.Body) == r_7)), []⟩, ⟨.d (.bool ((b2s r6.Body) == r_7)), []⟩] (by kernel_rfl) ?_
    cases hb_4 : (((b2s r6.Body) == r_7) : Bool) with
    | true =>
      replace h := ite_t hb_4 h
      refine RunAt.chunk 4 [⟨.d (.int .i64 e8), []⟩, ⟨.d (.bool (e8 == 0)), []⟩, ⟨.d (.bool (e8 == 0)), []⟩, ⟨.d (.bool (e8 == 0)), []⟩] (by kernel_rfl) ?_
      cases hb_5 : ((e8 == 0) : Bool) with
      | true =>
        replace h := ite_t hb_5 h
        refine RunAt.chunk 5 [⟨.d (.str n7), []⟩, ⟨.d (.str t5), []⟩, ⟨.d (.bool (n7 == t5)), []⟩, ⟨.d (.bool (n7 == t5)), []⟩, ⟨.d (.bool (n7 == t5)), []⟩] (by kernel_rfl) ?_
        cases hb_6 : ((n7 == t5) : Bool) with
        | true =>
          replace h := ite_t hb_6 h
          refine RunAt.chunk 4 [⟨.d (.int .i64 f10), []⟩, ⟨.d (.bool (f10 == 3)), []⟩, ⟨.d (.bool (f10 == 3)), []⟩, ⟨.d (.bool (f10 == 3)), []⟩] (by kernel_rfl) ?_
          cases hb_7 : ((f10 == 3) : Bool) with
          | true =>
            replace h := ite_t hb_7 h
            refine RunAt.chunk 5 [⟨.d (.int .i64 g12), []⟩, ⟨.d (.int .i64 want13), []⟩, ⟨.d (.bool (g12 == want13)), []⟩, ⟨.d (.bool (g12 == want13)), []⟩, ⟨.d (.bool (g12 == want13)), []⟩] (by kernel_rfl) ?_
            cases hb_8 : ((g12 == want13) : Bool) with
            | true =>
              replace h := ite_t hb_8 h
              refine RunAt.chunk 4 [⟨.d (.int .i64 r_5.2), []⟩, ⟨.d (.bool (r_5.2 == 2)), []⟩, ⟨.d (.bool (r_5.2 == 2)), []⟩, ⟨.d (.bool (r_5.2 == 2)), []⟩] (by kernel_rfl) ?_
              cases hb_9 : ((r_5.2 == 2) : Bool) with
              | true =>
                replace h := ite_t hb_9 h
                refine RunAt.chunk 1 [⟨.d (.str more1), []⟩] (by kernel_rfl) ?_
                refine RunAt.cut (some 98) .lenS [] none [.d (.str more1)] (.d (.int .i64 (more1.length : Int))) [] (by kernel_rfl) (by kernel_rfl) (by kernel_rfl) (cut_lenS _) ?_
                refine RunAt.chunk 3 [⟨.d (.bool (decide ((more1.length : Int) ≥ 0))), []⟩, ⟨.d (.bool (decide ((more1.length : Int) ≥ 0))), []⟩, ⟨.d (.bool (decide ((more1.length : Int) ≥ 0))), []⟩] (by kernel_rfl) ?_
                refine RunAt.done (by kernel_rfl) ?_
                refine kS_nrm ?_
                refine Runs.ret ?_
                obtain rfl := Option.some.inj h
                exact ⟨Out.ret_ne, (by kernel_rfl)⟩
              | false =>
                replace h := ite_f hb_9 h
                refine RunAt.chunk 5 [⟨.tup [], []⟩, ⟨.tup [], []⟩, ⟨.tup [], []⟩, ⟨.d (.bool false), []⟩, ⟨.d (.bool false), []⟩] (by kernel_rfl) ?_
                refine RunAt.done (by kernel_rfl) ?_
                refine kS_nrm ?_
                refine Runs.ret ?_
                obtain rfl := Option.some.inj h
                exact ⟨Out.ret_ne, (by kernel_rfl)⟩
            | false =>
              replace h := ite_f hb_8 h
              refine RunAt.chunk 9 [⟨.tup [], []⟩, ⟨.tup [], []⟩, ⟨.d (.bool false), []⟩, ⟨.d (.bool false), []⟩, ⟨.tup [], []⟩, ⟨.tup [], []⟩, ⟨.tup [], []⟩, ⟨.d (.bool false), []⟩, ⟨.d (.bool false), []⟩] (by kernel_rfl) ?_
              refine RunAt.done (by kernel_rfl) ?_
              refine kS_nrm ?_
              refine Runs.ret ?_
              obtain rfl := Option.some.inj h
              exact ⟨Out.ret_ne, (by kernel_rfl)⟩
          | false =>
            replace h := ite_f hb_7 h
            refine RunAt.chunk 14 [⟨.tup [], []⟩, ⟨.tup [], []⟩, ⟨.tup [], []⟩, ⟨.d (.bool false), []⟩, ⟨.d (.bool false), []⟩, ⟨.tup [], []⟩, ⟨.tup [], []⟩, ⟨.d (.bool false), []⟩, ⟨.d (.bool false), []⟩, ⟨.tup [], []⟩, ⟨.tup [], []⟩, ⟨.tup [], []⟩, ⟨.d (.bool false), []⟩, ⟨.d (.bool false), []⟩] (by kernel_rfl) ?_
            refine RunAt.done (by kernel_rfl) ?_
            refine kS_nrm ?_
            refine Runs.ret ?_
            obtain rfl := Option.some.inj h
            exact ⟨Out.ret_ne, (by kernel_rfl)⟩
        | false =>
          replace h := ite_f hb_6 h
          refine RunAt.chunk 18 [⟨.tup [], []⟩, ⟨.tup [], []⟩, ⟨.d (.bool false), []⟩, ⟨.d (.bool false), []⟩, ⟨.tup [], []⟩, ⟨.tup [], []⟩, ⟨.tup [], []⟩, ⟨.d (.bool false), []⟩, ⟨.d (.bool false), []⟩, ⟨.tup [], []⟩, ⟨.tup [], []⟩, ⟨.d (.bool false), []⟩, ⟨.d (.bool false), []⟩, ⟨.tup [], []⟩, ⟨.tup [], []⟩, ⟨.tup [], []⟩, ⟨.d (.bool false), []⟩, ⟨.d (.bool false), []⟩] (by kernel_rfl) ?_
          refine RunAt.done (by kernel_rfl) ?_
          refine kS_nrm ?_
          refine Runs.ret ?_
          obtain rfl := Option.some.inj h
          exact ⟨Out.ret_ne, (by kernel_rfl)⟩
      | false =>
        replace h := ite_f hb_5 h
        refine RunAt.chunk 23 [⟨.tup [], []⟩, ⟨.tup [], []⟩, ⟨.tup [], []⟩, ⟨.d (.bool false), []⟩, ⟨.d (.bool false), []⟩, ⟨.tup [], []⟩, ⟨.tup [], []⟩, ⟨.d (.bool false), []⟩, ⟨.d (.bool false), []⟩, ⟨.tup [], []⟩, ⟨.tup [], []⟩, ⟨.tup [], []⟩, ⟨.d (.bool false), []⟩, ⟨.d (.bool false), []⟩, ⟨.tup [], []⟩, ⟨.tup [], []⟩, ⟨.d (.bool false), []⟩, ⟨.d (.bool false), []⟩, ⟨.tup [], []⟩, ⟨.tup [], []⟩, ⟨.tup [], []⟩, ⟨.d (.bool false), []⟩, ⟨.d (.bool false), []⟩] (by kernel_rfl) ?_
        refine RunAt.done (by kernel_rfl) ?_
        refine kS_nrm ?_
        refine Runs.ret ?_
        obtain rfl := Option.some.inj h
        exact ⟨Out.ret_ne, (by kernel_rfl)⟩
    | false =>
      replace h := ite_f hb_4 h
      refine RunAt.chunk 27 [⟨.tup [], []⟩, ⟨.tup [], []⟩, ⟨.d (.bool false), []⟩, ⟨.d (.bool false), []⟩, ⟨.tup [], []⟩, ⟨.tup [], []⟩, ⟨.tup [], []⟩, ⟨.d (.bool false), []⟩, ⟨.d (.bool false), []⟩, ⟨.tup [], []⟩, ⟨.tup [], []⟩, ⟨.d (.bool false), []⟩, ⟨.d (.bool false), []⟩, ⟨.tup [], []⟩, ⟨.tup [], []⟩, ⟨.tup [], []⟩, ⟨.d (.bool false), []⟩, ⟨.d (.bool false), []⟩, ⟨.tup [], []⟩, ⟨.tup [], []⟩, ⟨.d (.bool false), []⟩, ⟨.d (.bool false), []⟩, ⟨.tup [], []⟩, ⟨.tup [], []⟩, ⟨.tup [], []⟩, ⟨.d (.bool false), []⟩, ⟨.d (.bool false), []⟩] (by kernel_rfl) ?_
      refine RunAt.done (by kernel_rfl) ?_
      refine kS_nrm ?_
      refine Runs.ret ?_
      obtain rfl := Option.some.inj h
      exact ⟨Out.ret_ne, (by kernel_rfl)⟩
  | false =>
    replace h := ite_f hb_3 h
    refine RunAt.chunk 35 [⟨.tup [], []⟩, ⟨.tup [], []⟩, ⟨.tup [], []⟩, ⟨.tup [], []⟩, ⟨.tup [], []⟩, ⟨.tup [], []⟩, ⟨.d (.bool false), []⟩, ⟨.d (.bool false), []⟩, ⟨.tup [], []⟩, ⟨.tup [], []⟩, ⟨.d (.bool false), []⟩, ⟨.d (.bool false), []⟩, ⟨.tup [], []⟩, ⟨.tup [], []⟩, ⟨.tup [], []⟩, ⟨.d (.bool false), []⟩, ⟨.d (.bool false), []⟩, ⟨.tup [], []⟩, ⟨.tup [], []⟩, ⟨.d (.bool false), []⟩, ⟨.d (.bool false), []⟩, ⟨.tup [], []⟩, ⟨.tup [], []⟩, ⟨.tup [], []⟩, ⟨.d (.bool false), []⟩, ⟨.d (.bool false), []⟩, ⟨.tup [], []⟩, ⟨.tup [], []⟩, ⟨.d (.bool false), []⟩, ⟨.d (.bool false), []⟩, ⟨.tup [], []⟩, ⟨.tup [], []⟩, ⟨.tup [], []⟩, ⟨.d (.bool false), []⟩, ⟨.d (.bool false), []⟩] (by kernel_rfl) ?_
    refine RunAt.done (by kernel_rfl) ?_
    refine kS_nrm ?_
    refine Runs.ret ?_
    obtain rfl := Option.some.inj h
    exact ⟨Out.ret_ne, (by kernel_rfl)⟩
theorem hansomlaw20_NamesHeader_ok (s_ : (List UInt8)) (more_ : (List UInt8)) (r : Bool) (h : hansomlaw20_NamesHeader s_ more_ = some r) : Runs L F8.body ⟨tmOf [.d (.str s_), .d (.str more_)] 0, updW (fun _ => none) []⟩ (hansomlaw20_NamesHeader_Q s_ more_ r) := by
  unfold hansomlaw20_NamesHeader at h
  refine Runs.seq ?_
  refine Runs.ops ?_
  refine RunAt.chunk 1 [⟨.d (.bool false), []⟩] (by kernel_rfl) ?_
  refine RunAt.done (by kernel_rfl) ?_
  refine kS_nrm ?_
  refine Runs.seq ?_
  refine Runs.ops ?_
  refine RunAt.chunk 2 [⟨.d (.str s_), []⟩, ⟨.d (.str s_), []⟩] (by kernel_rfl) ?_
  refine RunAt.cut (some 18) .lenS [] none [.d (.str s_)] (.d (.int .i64 (s_.length : Int))) [] (by kernel_rfl) (by kernel_rfl) (by kernel_rfl) (cut_lenS _) ?_
  refine RunAt.chunk 1 [⟨.d (.int .i64 (mnI (s_.length : Int) 255)), []⟩] (by kernel_rfl) ?_
  obtain ⟨z_1, hz_1, h⟩ := bind_s h
  refine RunAt.cut (some 20) (.substr false true) [] none [.d (.str s_), .d (.int .i64 (mnI (s_.length : Int) 255))] (.d (.str z_1)) [] (by kernel_rfl) (by kernel_rfl) (by kernel_rfl) (cut_strFT hz_1) ?_
  refine RunAt.chunk 1 [⟨.d (.str z_1), []⟩] (by kernel_rfl) ?_
  refine RunAt.done (by kernel_rfl) ?_
  refine kS_nrm ?_
  refine Runs.seq ?_
  refine Runs.ops ?_
  refine RunAt.chunk 1 [⟨.d (.str z_1), []⟩] (by kernel_rfl) ?_
  obtain ⟨r_1, hr_1, h⟩ := bind_s h
  have hc_1 := names_Header_L z_1 r_1 hr_1
  refine RunAt.cut (some 22) (.callf 34) [] none [.d (.str z_1)] (.d (Record.d r_1)) [] (by kernel_rfl) (by kernel_rfl) (by kernel_rfl) (cut_call (call_of (ws := []) (us := []) (by kernel_rfl) (by kernel_rfl) hc_1 (by kernel_rfl) (by kernel_rfl))) ?_
  refine RunAt.chunk 2 [⟨.ptr [6] 0 0, [([6], some (.cells [.d (.int .u8 0), .nils] 0))]⟩, ⟨.tup [], [([6], some (.cells [.d (.int .u8 r_1.Kind), .d (.sl (List.map (D.int .u8) r_1.Body))] 0))]⟩] (by kernel_rfl) ?_
  refine RunAt.done (by kernel_rfl) ?_
  refine kS_nrm ?_
  refine Runs.seq ?_
  refine Runs.seq ?_
  refine Runs.ops ?_
  refine RunAt.chunk 2 [⟨.ptr [6] 0 1, []⟩, ⟨.d (.sl (List.map (D.int .u8) r_1.Body)), []⟩] (by kernel_rfl) ?_
  refine RunAt.cut (some 25) .lenL [] none [.d (.sl (List.map (D.int .u8) r_1.Body))] (.d (.int .i64 (r_1.Body.length : Int))) [] (by kernel_rfl) (by kernel_rfl) (by kernel_rfl) (cut_len _) ?_
  refine RunAt.chunk 1 [⟨.d (.bool ((r_1.Body.length : Int) == 0)), []⟩] (by kernel_rfl) ?_
  refine RunAt.done (by kernel_rfl) ?_
  refine kS_nrm ?_
  cases hb_1 : (((r_1.Body.length : Int) == 0) : Bool) with
  | true =>
    replace h := ite_t hb_1 h
    refine Runs.cond_t (by kernel_rfl) ?_
    refine Runs.seq ?_
    refine Runs.ops ?_
    refine RunAt.chunk 1 [⟨.d (.bool false), []⟩] (by kernel_rfl) ?_
    refine RunAt.done (by kernel_rfl) ?_
    refine kS_nrm ?_
    refine Runs.ret ?_
    refine kS_ret ?_
    obtain rfl := Option.some.inj h
    exact ⟨Out.ret_ne, (by kernel_rfl)⟩
  | false =>
    replace h := ite_f hb_1 h
    refine Runs.cond_f (by kernel_rfl) ?_
    refine Runs.skip ?_
    refine kS_nrm ?_
    refine Runs.seq ?_
    refine Runs.ops ?_
    refine RunAt.chunk 2 [⟨.ptr [6] 0 1, []⟩, ⟨.d (.sl (List.map (D.int .u8) r_1.Body)), []⟩] (by kernel_rfl) ?_
    obtain ⟨r_2, hr_2, h⟩ := bind_s h
    have hc_2 := names_Name_L r_1.Body r_2 hr_2
    refine RunAt.cut (some 30) (.callf 35) [] none [.d (.sl (List.map (D.int .u8) r_1.Body))] (.tup [.d (.str r_2.1), .d (.int .i64 r_2.2)]) [] (by kernel_rfl) (by kernel_rfl) (by kernel_rfl) (cut_call (call_of (ws := []) (us := []) (by kernel_rfl) (by kernel_rfl) hc_2 (by kernel_rfl) (by kernel_rfl))) ?_
    refine RunAt.chunk 5 [⟨.tup [.d (.str r_2.1), .d (.int .i64 r_2.2)], []⟩, ⟨.d (.str r_2.1), []⟩, ⟨.d (.int .i64 r_2.2), []⟩, ⟨.d (.str r_2.1), []⟩, ⟨.d (.int .i64 r_2.2), []⟩] (by kernel_rfl) ?_
    refine RunAt.done (by kernel_rfl) ?_
    refine kS_nrm ?_
    refine Runs.seq ?_
    refine Runs.ops ?_
    refine RunAt.chunk 3 [⟨.ref [34] 0 0 (List.map (D.int .u8) ([] : List Int)).length 1, [([34], some (.arr (List.map (D.int .u8) ([] : List Int)) 0 false))]⟩, ⟨.ptr [6] 0 1, []⟩, ⟨.d (.sl (List.map (D.int .u8) r_1.Body)), []⟩] (by kernel_rfl) ?_
    obtain ⟨z_2, hz_2, h⟩ := bind_s h
    refine RunAt.cut (some 37) (.append 1 1 false) [] none [.ref [34] 0 0 (List.map (D.int .u8) ([] : List Int)).length 1, .d (.sl (List.map (D.int .u8) r_1.Body))] (.ref [34] 1 0 (List.map (D.int .u8) z_2).length 1) [([34], some (.arr (List.map (D.int .u8) z_2) 1 false))] (by kernel_rfl) (by kernel_rfl) (by kernel_rfl) (cut_appR (e := (D.int .u8)) (l := ([] : List Int)) (fz := false) (ws := []) (ap_data _) (fun _ => rfl) hz_2 (by kernel_rfl) (by kernel_rfl) rfl) ?_
    refine RunAt.chunk 1 [⟨.ref [38] 0 0 (List.map (D.int .u8) ([120] : List Int)).length 1, [([38], some (.arr (List.map (D.int .u8) ([120] : List Int)) 0 false))]⟩] (by kernel_rfl) ?_
    obtain ⟨z_3, hz_3, h⟩ := bind_s h
    refine RunAt.cut (some 39) (.append 1 1 false) [] none [.ref [34] 1 0 (List.map (D.int .u8) z_2).length 1, .ref [38] 0 0 (List.map (D.int .u8) ([120] : List Int)).length 1] (.ref [34] 2 0 (List.map (D.int .u8) z_3).length 1) [([38], some (.arr (List.map (D.int .u8) ([120] : List Int)) 0 true)), ([34], some (.arr (List.map (D.int .u8) z_3) 2 false))] (by kernel_rfl) (by kernel_rfl) (by kernel_rfl) (cut_appR (e := (D.int .u8)) (l := z_2) (fz := false) (ws := [([38], some (.arr (List.map (D.int .u8) ([120] : List Int)) 0 true))]) (ap_ref (e := (D.int .u8)) (l := ([120] : List Int)) (fz := false) (by kernel_rfl) (by kernel_rfl) rfl) (fun _ => rfl) hz_3 (by kernel_rfl) (by kernel_rfl) rfl) ?_
    obtain ⟨r_3, hr_3, h⟩ := bind_s h
    have hc_3 := names_Name_L z_3 r_3 hr_3
    refine RunAt.cut (some 40) (.callf 35) [] none [.ref [34] 2 0 (List.map (D.int .u8) z_3).length 1] (.tup [.d (.str r_3.1), .d (.int .i64 r_3.2)]) [([34], some (.arr (List.map (D.int .u8) z_3) 2 true))] (by kernel_rfl) (by kernel_rfl) (by kernel_rfl) (cut_call (call_of (ws := [([34], some (.arr (List.map (D.int .u8) z_3) 2 true))]) (us := [([34], some (.arr (List.map (D.int .u8) z_3) 2 true))]) (by kernel_rfl) (gives_cons (ws := [([34], some (.arr (List.map (D.int .u8) z_3) 2 true))]) (give_ref (e := (D.int .u8)) (l := z_3) (fz := false) (by kernel_rfl) (by kernel_rfl) rfl) gives_nil) hc_3 (by kernel_rfl) (by kernel_rfl))) ?_
    refine RunAt.chunk 5 [⟨.tup [.d (.str r_3.1), .d (.int .i64 r_3.2)], []⟩, ⟨.d (.str r_3.1), []⟩, ⟨.d (.int .i64 r_3.2), []⟩, ⟨.d (.str r_3.1), []⟩, ⟨.d (.int .i64 r_3.2), []⟩] (by kernel_rfl) ?_
    refine RunAt.done (by kernel_rfl) ?_
    refine kS_nrm ?_
    refine Runs.seq ?_
    refine Runs.ops ?_
    refine RunAt.chunk 4 [⟨.ptr [6] 0 1, []⟩, ⟨.d (.sl (List.map (D.int .u8) r_1.Body)), []⟩, ⟨.ptr [6] 0 1, []⟩, ⟨.d (.sl (List.map (D.int .u8) r_1.Body)), []⟩] (by kernel_rfl) ?_
    refine RunAt.cut (some 48) .lenL [] none [.d (.sl (List.map (D.int .u8) r_1.Body))] (.d (.int .i64 (r_1.Body.length : Int))) [] (by kernel_rfl) (by kernel_rfl) (by kernel_rfl) (cut_len _) ?_
    refine RunAt.chunk 1 [⟨.d (.str z_1), []⟩] (by kernel_rfl) ?_
    refine RunAt.cut (some 50) .lenS [] none [.d (.str z_1)] (.d (.int .i64 (z_1.length : Int))) [] (by kernel_rfl) (by kernel_rfl) (by kernel_rfl) (cut_lenS _) ?_
    refine RunAt.chunk 3 [⟨.d (.int .i64 (mnI (z_1.length : Int) 1)), []⟩, ⟨.d (.int .i64 (IntKind.wrap .i64 ((r_1.Body.length : Int) - (mnI (z_1.length : Int) 1)))), []⟩, ⟨.d (.int .i64 (mxI (IntKind.wrap .i64 ((r_1.Body.length : Int) - (mnI (z_1.length : Int) 1))) 0)), []⟩] (by kernel_rfl) ?_
    obtain ⟨z_4, hz_4, h⟩ := bind_s h
    refine RunAt.cut (some 54) (.subsl 1 false true false) [] none [.d (.sl (List.map (D.int .u8) r_1.Body)), .d (.int .i64 (mxI (IntKind.wrap .i64 ((r_1.Body.length : Int) - (mnI (z_1.length : Int) 1))) 0))] (.d (.sl (List.map (D.int .u8) z_4))) [] (by kernel_rfl) (by kernel_rfl) (by kernel_rfl) (cut_slFT hz_4 (fun _ => rfl)) ?_
    obtain ⟨r_4, hr_4, h⟩ := bind_s h
    have hc_4 := names_Name_L z_4 r_4 hr_4
    refine RunAt.cut (some 55) (.callf 35) [] none [.d (.sl (List.map (D.int .u8) z_4))] (.tup [.d (.str r_4.1), .d (.int .i64 r_4.2)]) [] (by kernel_rfl) (by kernel_rfl) (by kernel_rfl) (cut_call (call_of (ws := []) (us := []) (by kernel_rfl) (by kernel_rfl) hc_4 (by kernel_rfl) (by kernel_rfl))) ?_
    refine RunAt.chunk 5 [⟨.tup [.d (.str r_4.1), .d (.int .i64 r_4.2)], []⟩, ⟨.d (.str r_4.1), []⟩, ⟨.d (.int .i64 r_4.2), []⟩, ⟨.d (.str r_4.1), []⟩, ⟨.d (.int .i64 r_4.2), []⟩] (by kernel_rfl) ?_
    refine RunAt.done (by kernel_rfl) ?_
    refine kS_nrm ?_
    refine Runs.seq ?_
    refine Runs.ops ?_
    refine RunAt.chunk 1 [⟨.d (.int .i64 0), []⟩] (by kernel_rfl) ?_
    refine RunAt.done (by kernel_rfl) ?_
    refine kS_nrm ?_
    refine Runs.seq ?_
    refine Runs.seq ?_
    refine Runs.ops ?_
    refine RunAt.chunk 1 [⟨.d (.str z_1), []⟩] (by kernel_rfl) ?_
    refine RunAt.cut (some 59) .lenS [] none [.d (.str z_1)] (.d (.int .i64 (z_1.length : Int))) [] (by kernel_rfl) (by kernel_rfl) (by kernel_rfl) (cut_lenS _) ?_
    refine RunAt.chunk 1 [⟨.d (.bool (decide ((z_1.length : Int) > 0))), []⟩] (by kernel_rfl) ?_
    refine RunAt.done (by kernel_rfl) ?_
    refine kS_nrm ?_
    cases hb_2 : ((decide ((z_1.length : Int) > 0)) : Bool) with
    | true =>
      replace h := ite_t hb_2 h
      refine Runs.cond_t (by kernel_rfl) ?_
      refine Runs.ops ?_
      refine RunAt.chunk 1 [⟨.d (.int .i64 2), []⟩] (by kernel_rfl) ?_
      refine RunAt.done (by kernel_rfl) ?_
      refine kS_nrm ?_
      refine Runs.canon (hansomlaw20_NamesHeader_h28 r_1 more_ z_1 r_2.1 r_2.2 r_3.2 r_4.2 2) (Canon.nil (by kernel_rfl)) ?_
      exact hansomlaw20_NamesHeader_j28_ok s_ more_ r_1 more_ z_1 r_2.1 r_2.2 r_3.2 r_4.2 2 r h
    | false =>
      replace h := ite_f hb_2 h
      refine Runs.cond_f (by kernel_rfl) ?_
      refine Runs.skip ?_
      refine kS_nrm ?_
      refine Runs.canon (hansomlaw20_NamesHeader_h28 r_1 more_ z_1 r_2.1 r_2.2 r_3.2 r_4.2 0) (Canon.nil (by kernel_rfl)) ?_
      exact hansomlaw20_NamesHeader_j28_ok s_ more_ r_1 more_ z_1 r_2.1 r_2.2 r_3.2 r_4.2 0 r h
theorem hansomlaw20_NamesHeader_L (s_ : (List UInt8)) (more_ : (List UInt8)) (r : Bool) (h : hansomlaw20_NamesHeader s_ more_ = some r) : L 8 [.d (.str s_), .d (.str more_)] = some (.d (.bool r), [.d (.str s_), .d (.str more_)]) := by
  obtain ⟨p, ⟨hne, hf⟩, hr⟩ := hansomlaw20_NamesHeader_ok s_ more_ r h
  obtain ⟨k, hk⟩ := run_of (F := F8) (args := [.d (.str s_), .d (.str more_)]) (ap := [.d (.str s_), .d (.str more_)]) (bx0 := updW (fun _ => none) []) rfl rfl (by kernel_rfl) ⟨p, ⟨hne, hf⟩, hr⟩
  exact lim_run (k := k) rfl hk
def names_Remark_Q (c_ : Comment) (r : Record) (p : Out × St) : Prop := (∀ i, p.1 ≠ .exit i) ∧ finF F38 [.d (Comment.d c_)] p.2 = some (.d (Record.d r), [.d (Comment.d c_)])
theorem names_Remark_ok (c_ : Comment) (r : Record) (h : names_Remark c_ = some r) : Runs L F38.body ⟨tmOf [.d (Comment.d c_)] 0, updW (fun _ => none) []⟩ (names_Remark_Q c_ r) := by
  unfold names_Remark at h
  refine Runs.seq ?_
  refine Runs.ops ?_
  refine RunAt.chunk 2 [⟨.ptr [1] 0 0, [([1], some (.cells [.d (.int .u8 c_.Flags), .d (.int .u8 c_.Class), .d (.str c_.Text)] 0))]⟩, ⟨.ptr [2] 0 0, [([2], some (.cells [.d (.int .u8 0), .nils] 0))]⟩] (by kernel_rfl) ?_
  refine RunAt.done (by kernel_rfl) ?_
  refine kS_nrm ?_
  refine Runs.seq ?_
  refine Runs.ops ?_
  refine RunAt.chunk 7 [⟨.ptr [1] 0 0, []⟩, ⟨.d (.int .u8 c_.Flags), []⟩, ⟨.ptr [1] 0 1, []⟩, ⟨.d (.int .u8 c_.Class), []⟩, ⟨.ref [7] 0 0 (List.map (D.int .u8) ([c_.Flags, c_.Class] : List Int)).length 1, [([7], some (.arr (List.map (D.int .u8) ([c_.Flags, c_.Class] : List Int)) 0 false))]⟩, ⟨.ptr [1] 0 2, []⟩, ⟨.d (.str c_.Text), []⟩] (by kernel_rfl) ?_
  obtain ⟨z_1, hz_1, h⟩ := bind_s h
  refine RunAt.cut (some 10) (.append 1 1 true) [] none [.ref [7] 0 0 (List.map (D.int .u8) ([c_.Flags, c_.Class] : List Int)).length 1, .d (.str c_.Text)] (.ref [7] 1 0 (List.map (D.int .u8) z_1).length 1) [([7], some (.arr (List.map (D.int .u8) z_1) 1 false))] (by kernel_rfl) (by kernel_rfl) (by kernel_rfl) (cut_appR (e := (D.int .u8)) (l := ([c_.Flags, c_.Class] : List Int)) (fz := false) (ws := []) (ap_str _) (fun _ => rfl) hz_1 (by kernel_rfl) (by kernel_rfl) rfl) ?_
  refine RunAt.chunk 2 [⟨.mix [.d (.int .u8 136), .ref [7] 1 0 (List.map (D.int .u8) z_1).length 1], []⟩, ⟨.tup [], [([2], some (.cells [.d (.int .u8 136), .ref [7] 1 0 (List.map (D.int .u8) z_1).length 1] 0))]⟩] (by kernel_rfl) ?_
  refine RunAt.done (by kernel_rfl) ?_
  refine kS_nrm ?_
  refine Runs.seq ?_
  refine Runs.gcons (frzB_ref (e := (D.int .u8)) (l := z_1) (id := [2]) (id' := [7]) (v := 1) (n := 1) (fz := false) (ver := 0) (cs := [.d (.int .u8 136), .ref [7] 1 0 (List.map (D.int .u8) z_1).length 1]) (cs' := [.d (.int .u8 136), .d (.sl (List.map (D.int .u8) z_1))]) (by kernel_rfl) (by kernel_rfl) (by kernel_rfl) (by decide) (by kernel_rfl) rfl) ?_
  refine Runs.gnil ?_
  refine kS_nrm ?_
  refine Runs.ret ?_
  obtain rfl := Option.some.inj h
  exact ⟨Out.ret_ne, (by kernel_rfl)⟩
theorem names_Remark_L (c_ : Comment) (r : Record) (h : names_Remark c_ = some r) : L 38 [.d (Comment.d c_)] = some (.d (Record.d r), [.d (Comment.d c_)]) := by
  obtain ⟨p, ⟨hne, hf⟩, hr⟩ := names_Remark_ok c_ r h
  obtain ⟨k, hk⟩ := run_of (F := F38) (args := [.d (Comment.d c_)]) (ap := [.d (Comment.d c_)]) (bx0 := updW (fun _ => none) []) rfl rfl (by kernel_rfl) ⟨p, ⟨hne, hf⟩, hr⟩
  exact lim_run (k := k) rfl hk
def names_Comment_Q (b_ : (List Int)) (r : (Comment × Int)) (p : Out × St) : Prop := (∀ i, p.1 ≠ .exit i) ∧ finF F39 [.d (.sl (List.map (D.int .u8) b_))] p.2 = some (.tup [.d (Comment.d r.1), .d (.int .i64 r.2)], [.d (.sl (List.map (D.int .u8) b_))])
theorem names_Comment_ok (b_ : (List Int)) (r : (Comment × Int)) (h : names_Comment b_ = some r) : Runs L F39.body ⟨tmOf [.d (.sl (List.map (D.int .u8) b_))] 0, updW (fun _ => none) []⟩ (names_Comment_Q b_ r) := by
  unfold names_Comment at h
  refine Runs.seq ?_
  refine Runs.ops ?_
  refine RunAt.chunk 2 [⟨.ptr [2] 0 0, [([2], some (.cells [.d (.int .u8 0), .d (.int .u8 0), .d (.str [])] 0))]⟩, ⟨.d (.int .i64 0), []⟩] (by kernel_rfl) ?_
  refine RunAt.done (by kernel_rfl) ?_
  refine kS_nrm ?_
  refine Runs.seq ?_
  refine Runs.ops ?_
  refine RunAt.chunk 1 [⟨.d (.sl (List.map (D.int .u8) b_)), []⟩] (by kernel_rfl) ?_
  obtain ⟨r_1, hr_1, h⟩ := bind_s h
  have hc_1 := index_From_L b_ r_1 hr_1
  refine RunAt.cut (some 8) (.callf 61) [] none [.d (.sl (List.map (D.int .u8) b_))] (.ptr [8] 0 0) [([8], some (.cells [.d (.sl (List.map (D.int .u8) r_1.b)), .d (.int .i64 r_1.e)] 0))] (by kernel_rfl) (by kernel_rfl) (by kernel_rfl) (cut_call (call_of (ws := []) (us := []) (by kernel_rfl) (by kernel_rfl) hc_1 (by kernel_rfl) (by kernel_rfl))) ?_
  refine RunAt.chunk 1 [⟨.ptr [8] 0 0, []⟩] (by kernel_rfl) ?_
  refine RunAt.done (by kernel_rfl) ?_
  refine kS_nrm ?_
  refine Runs.seq ?_
  refine Runs.ops ?_
  refine RunAt.chunk 1 [⟨.ptr [8] 0 0, []⟩] (by kernel_rfl) ?_
  obtain ⟨r_2, hr_2, h⟩ := bind_s h
  have hc_2 := index_Source_Byte_L r_1 r_2 hr_2
  refine RunAt.cut (some 10) (.callf 64) [] none [.ptr [8] 0 0] (.d (.int .u8 r_2.1)) [([8], some (.cells [.d (.sl (List.map (D.int .u8) r_2.2.b)), .d (.int .i64 r_2.2.e)] 0))] (by kernel_rfl) (by kernel_rfl) (by kernel_rfl) (cut_call (call_of (ws := []) (us := [([8], some (.cells [.d (.sl (List.map (D.int .u8) r_2.2.b)), .d (.int .i64 r_2.2.e)] 0))]) (by kernel_rfl) (by kernel_rfl) hc_2 (by kernel_rfl) (by kernel_rfl))) ?_
  refine RunAt.chunk 1 [⟨.ptr [8] 0 0, []⟩] (by kernel_rfl) ?_
  obtain ⟨r_3, hr_3, h⟩ := bind_s h
  have hc_3 := index_Source_Byte_L r_2.2 r_3 hr_3
  refine RunAt.cut (some 12) (.callf 64) [] none [.ptr [8] 0 0] (.d (.int .u8 r_3.1)) [([8], some (.cells [.d (.sl (List.map (D.int .u8) r_3.2.b)), .d (.int .i64 r_3.2.e)] 0))] (by kernel_rfl) (by kernel_rfl) (by kernel_rfl) (cut_call (call_of (ws := []) (us := [([8], some (.cells [.d (.sl (List.map (D.int .u8) r_3.2.b)), .d (.int .i64 r_3.2.e)] 0))]) (by kernel_rfl) (by kernel_rfl) hc_3 (by kernel_rfl) (by kernel_rfl))) ?_
  refine RunAt.chunk 3 [⟨.d (.agg [.int .u8 r_2.1, .int .u8 r_3.1, .str []]), []⟩, ⟨.ptr [5] 0 0, [([5], some (.cells [.d (.int .u8 0), .d (.int .u8 0), .d (.str [])] 0))]⟩, ⟨.tup [], [([5], some (.cells [.d (.int .u8 r_2.1), .d (.int .u8 r_3.1), .d (.str [])] 0))]⟩] (by kernel_rfl) ?_
  refine RunAt.done (by kernel_rfl) ?_
  refine kS_nrm ?_
  refine Runs.seq ?_
  refine Runs.ops ?_
  refine RunAt.chunk 2 [⟨.ptr [8] 0 0, []⟩, ⟨.ptr [8] 0 0, []⟩] (by kernel_rfl) ?_
  obtain ⟨r_4, hr_4, h⟩ := bind_s h
  have hc_4 := index_Source_Left_L r_3.2 r_4 hr_4
  refine RunAt.cut (some 16) (.callf 66) [] none [.ptr [8] 0 0] (.d (.int .i64 r_4)) [([8], some (.cells [.d (.sl (List.map (D.int .u8) r_3.2.b)), .d (.int .i64 r_3.2.e)] 0))] (by kernel_rfl) (by kernel_rfl) (by kernel_rfl) (cut_call (call_of (ws := []) (us := [([8], some (.cells [.d (.sl (List.map (D.int .u8) r_3.2.b)), .d (.int .i64 r_3.2.e)] 0))]) (by kernel_rfl) (by kernel_rfl) hc_4 (by kernel_rfl) (by kernel_rfl))) ?_
  obtain ⟨r_5, hr_5, h⟩ := bind_s h
  have hc_5 := index_Source_Take_L r_3.2 r_4 r_5 hr_5
  refine RunAt.cut (some 17) (.callf 65) [] none [.ptr [8] 0 0, .d (.int .i64 r_4)] (.d (.sl (List.map (D.int .u8) r_5.1))) [([8], some (.cells [.d (.sl (List.map (D.int .u8) r_5.2.b)), .d (.int .i64 r_5.2.e)] 0))] (by kernel_rfl) (by kernel_rfl) (by kernel_rfl) (cut_call (call_of (ws := []) (us := [([8], some (.cells [.d (.sl (List.map (D.int .u8) r_5.2.b)), .d (.int .i64 r_5.2.e)] 0))]) (by kernel_rfl) (by kernel_rfl) hc_5 (by kernel_rfl) (by kernel_rfl))) ?_
  refine RunAt.cut (some 18) .bytesStr [] none [.d (.sl (List.map (D.int .u8) r_5.1))] (.d (.str (b2s r_5.1))) [] (by kernel_rfl) (by kernel_rfl) (by kernel_rfl) (cut_bs _) ?_
  refine RunAt.chunk 2 [⟨.ptr [5] 0 2, []⟩, ⟨.tup [], [([5], some (.cells [.d (.int .u8 r_2.1), .d (.int .u8 r_3.1), .d (.str (b2s r_5.1))] 0))]⟩] (by kernel_rfl) ?_
  refine RunAt.done (by kernel_rfl) ?_
  refine kS_nrm ?_
  refine Runs.seq ?_
  refine Runs.seq ?_
  refine Runs.ops ?_
  refine RunAt.chunk 1 [⟨.ptr [8] 0 0, []⟩] (by kernel_rfl) ?_
  obtain ⟨r_6, hr_6, h⟩ := bind_s h
  have hc_6 := index_Source_Err_L r_5.2 r_6 hr_6
  refine RunAt.cut (some 21) (.callf 67) [] none [.ptr [8] 0 0] (.d (.int .i64 r_6)) [([8], some (.cells [.d (.sl (List.map (D.int .u8) r_5.2.b)), .d (.int .i64 r_5.2.e)] 0))] (by kernel_rfl) (by kernel_rfl) (by kernel_rfl) (cut_call (call_of (ws := []) (us := [([8], some (.cells [.d (.sl (List.map (D.int .u8) r_5.2.b)), .d (.int .i64 r_5.2.e)] 0))]) (by kernel_rfl) (by kernel_rfl) hc_6 (by kernel_rfl) (by kernel_rfl))) ?_
  refine RunAt.chunk 1 [⟨.d (.int .i64 r_6), []⟩] (by kernel_rfl) ?_
  refine RunAt.done (by kernel_rfl) ?_
  refine kS_nrm ?_
  refine Runs.seq ?_
  refine Runs.ops ?_
  refine RunAt.chunk 2 [⟨.d (.int .i64 r_6), []⟩, ⟨.d (.bool (r_6 != 0)), []⟩] (by kernel_rfl) ?_
  refine RunAt.done (by kernel_rfl) ?_
  refine kS_nrm ?_
  cases hb_1 : ((r_6 != 0) : Bool) with
  | true =>
    replace h := ite_t hb_1 h
    refine Runs.cond_t (by kernel_rfl) ?_
    refine Runs.seq ?_
    refine Runs.ops ?_
    refine RunAt.chunk 4 [⟨.d (.agg [.int .u8 0, .int .u8 0, .str []]), []⟩, ⟨.d (.int .i64 r_6), []⟩, ⟨.tup [], [([2], some (.cells [.d (.int .u8 0), .d (.int .u8 0), .d (.str [])] 0))]⟩, ⟨.d (.int .i64 r_6), []⟩] (by kernel_rfl) ?_
    refine RunAt.done (by kernel_rfl) ?_
    refine kS_nrm ?_
    refine Runs.ret ?_
    refine kS_ret ?_
    obtain rfl := Option.some.inj h
    exact ⟨Out.ret_ne, (by kernel_rfl)⟩
  | false =>
    replace h := ite_f hb_1 h
    refine Runs.cond_f (by kernel_rfl) ?_
    refine Runs.skip ?_
    refine kS_nrm ?_
    refine Runs.seq ?_
    refine Runs.ops ?_
    refine RunAt.chunk 3 [⟨.d (.agg [.int .u8 r_2.1, .int .u8 r_3.1, .str (b2s r_5.1)]), []⟩, ⟨.tup [], [([2], some (.cells [.d (.int .u8 r_2.1), .d (.int .u8 r_3.1), .d (.str (b2s r_5.1))] 0))]⟩, ⟨.d (.int .i64 0), []⟩] (by kernel_rfl) ?_
    refine RunAt.done (by kernel_rfl) ?_
    refine kS_nrm ?_
    refine Runs.ret ?_
    obtain rfl := Option.some.inj h
    exact ⟨Out.ret_ne, (by kernel_rfl)⟩
theorem names_Comment_L (b_ : (List Int)) (r : (Comment × Int)) (h : names_Comment b_ = some r) : L 39 [.d (.sl (List.map (D.int .u8) b_))] = some (.tup [.d (Comment.d r.1), .d (.int .i64 r.2)], [.d (.sl (List.map (D.int .u8) b_))]) := by
  obtain ⟨p, ⟨hne, hf⟩, hr⟩ := names_Comment_ok b_ r h
  obtain ⟨k, hk⟩ := run_of (F := F39) (args := [.d (.sl (List.map (D.int .u8) b_))]) (ap := [.d (.sl (List.map (D.int .u8) b_))]) (bx0 := updW (fun _ => none) []) rfl rfl (by kernel_rfl) ⟨p, ⟨hne, hf⟩, hr⟩
  exact lim_run (k := k) rfl hk
def hansomlaw20_NamesRemark_h20 (c2 : Comment) (x5 : Comment) (r6 : Record) (y7 : Comment) (z9 : Comment) (b1 : (List Int)) (e8 : Int) (f10 : Int) (want11 : Int) : St := ⟨tab [(1, .d (.sl (List.map (D.int .u8) b1))), (2, .ptr [2] 0 0), (5, .ptr [5] 0 0), (6, .ptr [6] 0 0), (7, .ptr [7] 0 0), (8, .d (.int .i64 e8)), (9, .ptr [9] 0 0), (10, .d (.int .i64 f10)), (11, .d (.int .i64 want11))], tabB [([2], some (.cells [.d (.int .u8 c2.Flags), .d (.int .u8 c2.Class), .d (.str c2.Text)] 0)), ([5], some (.cells [.d (.int .u8 x5.Flags), .d (.int .u8 x5.Class), .d (.str x5.Text)] 0)), ([6], some (.cells [.d (.int .u8 r6.Kind), .d (.sl (List.map (D.int .u8) r6.Body))] 0)), ([7], some (.cells [.d (.int .u8 y7.Flags), .d (.int .u8 y7.Class), .d (.str y7.Text)] 0)), ([9], some (.cells [.d (.int .u8 z9.Flags), .d (.int .u8 z9.Class), .d (.str z9.Text)] 0))]⟩
def hansomlaw20_NamesRemark_Q (c_ : Comment) (b_ : (List Int)) (r : Bool) (p : Out × St) : Prop := (∀ i, p.1 ≠ .exit i) ∧ finF F9 [.d (Comment.d c_), .d (.sl (List.map (D.int .u8) b_))] p.2 = some (.d (.bool r), [.d (Comment.d c_), .d (.sl (List.map (D.int .u8) b_))])
theorem hansomlaw20_NamesRemark_j20_ok (c_ : Comment) (b_ : (List Int)) (c2 : Comment) (x5 : Comment) (r6 : Record) (y7 : Comment) (z9 : Comment) (b1 : (List Int)) (e8 : Int) (f10 : Int) (want11 : Int) (r : Bool) (h : hansomlaw20_NamesRemark_j20 c2 x5 r6 y7 z9 b1 e8 f10 want11 = some r) : Runs L F9b20 (hansomlaw20_NamesRemark_h20 c2 x5 r6 y7 z9 b1 e8 f10 want11) (hansomlaw20_NamesRemark_Q c_ b_ r) := by
  unfold hansomlaw20_NamesRemark_j20 at h
  refine Runs.seq ?_
  refine Runs.ops ?_
  obtain ⟨r_4, hr_4, h⟩ := bind_s h
  have hc_4 := hansomlaw20_awake_L r_4 hr_4
  refine RunAt.cut (some 41) (.callf 36) [] none [] (.d (.bool r_4)) [] (by kernel_rfl) (by kernel_rfl) (by kernel_rfl) (cut_call (call_of (ws := []) (us := []) (by kernel_rfl) (by kernel_rfl) hc_4 (by kernel_rfl) (by kernel_rfl))) ?_
  refine RunAt.chunk 1 [⟨.d (.bool r_4), []⟩] (by kernel_rfl) ?_
  cases hb_2 : (r_4 : Bool) with
  | true =>
    replace h := ite_t hb_2 h
    refine RunAt.chunk 5 [⟨.ptr [6] 0 0, []⟩, ⟨.d (.int .u8 r6.Kind), []⟩, ⟨.d (.bool (r6.Kind == 136)), []⟩, ⟨.d (.bool (r6.Kind == 136)), []⟩, ⟨.d (.bool (r6.Kind == 136)), []⟩] (by kernel_rfl) ?_
    cases hb_3 : ((r6.Kind == 136) : Bool) with
    | true =>
      replace h := ite_t hb_3 h
      refine RunAt.chunk 2 [⟨.ptr [6] 0 1, []⟩, ⟨.d (.sl (List.map (D.int .u8) r6.Body)), []⟩] (by kernel_rfl) ?_
      refine RunAt.cut (some 50) .bytesStr [[55]] none [.d (.sl (List.map (D.int .u8) r6.Body))] (.d (.str (b2s r6.Body))) [] (by kernel_rfl) (by kernel_rfl) (by kernel_rfl) (cut_bs _) ?_
      refine RunAt.chunk 5 [⟨.ptr [2] 0 0, []⟩, ⟨.d (.int .u8 c2.Flags), []⟩, ⟨.ptr [2] 0 1, []⟩, ⟨.d (.int .u8 c2.Class), []⟩, ⟨.ref [55] 0 0 (List.map (D.int .u8) ([c2.Flags, c2.Class] : List Int)).length 1, [([55], some (.arr (List.map (D.int .u8) ([c2.Flags, c2.Class] : List Int)) 0 false))]⟩] (by kernel_rfl) ?_
      refine RunAt.cut (some 56) .bytesStr [] none [.ref [55] 0 0 (List.map (D.int .u8) ([c2.Flags, c2.Class] : List Int)).length 1] (.d (.str (b2s ([c2.Flags, c2.Class] : List Int)))) [] (by kernel_rfl) (by kernel_rfl) (by kernel_rfl) (cut_bsR (l := ([c2.Flags, c2.Class] : List Int)) (fz := false) (by kernel_rfl) (by kernel_rfl) rfl) ?_
      refine RunAt.chunk 2 [⟨.ptr [5] 0 2, []⟩, ⟨.d (.str x5.Text), []⟩] (by kernel_rfl) ?_
      obtain ⟨z_3, hz_3, h⟩ := bind_s h
      refine RunAt.cut (some 59) (.bin .add) [] none [.d (.str (b2s ([c2.Flags, c2.Class] : List Int))), .d (.str x5.Text)] (.d (.str z_3)) [] (by kernel_rfl) (by kernel_rfl) (by kernel_rfl) (cut_cat hz_3) ?_
      refine RunAt.chunk 3 [⟨.d (.bool ((b2s r6.Body) == z_3)), []⟩, ⟨.d (.bool ((b2s r6.Body) == z_3)), []⟩, ⟨.d (.bool ((b2s r6.Body) == z_3)), []⟩] (by kernel_rfl) ?_
      cases hb_4 : (((b2s r6.Body) == z_3) : Bool) with
      | true =>
        replace h := ite_t hb_4 h
        refine RunAt.chunk 4 [⟨.d (.int .i64 e8), []⟩, ⟨.d (.bool (e8 == 0)), []⟩, ⟨.d (.bool (e8 == 0)), []⟩, ⟨.d (.bool (e8 == 0)), []⟩] (by kernel_rfl) ?_
        cases hb_5 : ((e8 == 0) : Bool) with
        | true =>
          replace h := ite_t hb_5 h
          refine RunAt.chunk 5 [⟨.d (Comment.d y7), []⟩, ⟨.d (Comment.d x5), []⟩, ⟨.d (.bool (y7.Flags == x5.Flags && (y7.Class == x5.Class && (y7.Text == x5.Text && true)))), []⟩, ⟨.d (.bool (y7.Flags == x5.Flags && (y7.Class == x5.Class && (y7.Text == x5.Text && true)))), []⟩, ⟨.d (.bool (y7.Flags == x5.Flags && (y7.Class == x5.Class && (y7.Text == x5.Text && true)))), []⟩] (by kernel_rfl) ?_
          cases hb_6 : ((y7.Flags == x5.Flags && (y7.Class == x5.Class && (y7.Text == x5.Text && true))) : Bool) with
          | true =>
            replace h := ite_t hb_6 h
            refine RunAt.chunk 5 [⟨.d (.int .i64 f10), []⟩, ⟨.d (.int .i64 want11), []⟩, ⟨.d (.bool (f10 == want11)), []⟩, ⟨.d (.bool (f10 == want11)), []⟩, ⟨.d (.bool (f10 == want11)), []⟩] (by kernel_rfl) ?_
            cases hb_7 : ((f10 == want11) : Bool) with
            | true =>
              replace h := ite_t hb_7 h
              refine RunAt.chunk 3 [⟨.d (.int .i64 f10), []⟩, ⟨.d (.bool (f10 != 0)), []⟩, ⟨.d (.bool (f10 != 0)), []⟩] (by kernel_rfl) ?_
              cases hb_8 : ((f10 != 0) : Bool) with
              | true =>
                replace h := ite_t hb_8 h
                refine RunAt.chunk 14 [⟨.tup [], []⟩, ⟨.tup [], []⟩, ⟨.tup [], []⟩, ⟨.tup [], []⟩, ⟨.tup [], []⟩, ⟨.tup [], []⟩, ⟨.tup [], []⟩, ⟨.tup [], []⟩, ⟨.tup [], []⟩, ⟨.tup [], []⟩, ⟨.tup [], []⟩, ⟨.d (.bool true), []⟩, ⟨.d (.bool true), []⟩, ⟨.d (.bool true), []⟩] (by kernel_rfl) ?_
                refine RunAt.done (by kernel_rfl) ?_
                refine kS_nrm ?_
                refine Runs.ret ?_
                obtain rfl := Option.some.inj h
                exact ⟨Out.ret_ne, (by kernel_rfl)⟩
              | false =>
                replace h := ite_f hb_8 h
                refine RunAt.chunk 1 [⟨.d (Comment.d z9), []⟩] (by kernel_rfl) ?_
                obtain ⟨r_5, hr_5, h⟩ := bind_s h
                have hc_5 := names_Remark_L z9 r_5 hr_5
                refine RunAt.cut (some 81) (.callf 38) [] (some []) [.d (Comment.d z9)] (.d (Record.d r_5)) [] (by kernel_rfl) (by kernel_rfl) (by kernel_rfl) (cut_call (call_of (ws := []) (us := []) (by kernel_rfl) (by kernel_rfl) hc_5 (by kernel_rfl) (by kernel_rfl))) ?_
                refine RunAt.chunk 1 [⟨.d (.sl (List.map (D.int .u8) r_5.Body)), []⟩] (by kernel_rfl) ?_
                refine RunAt.cut (some 83) .bytesStr [] none [.d (.sl (List.map (D.int .u8) r_5.Body))] (.d (.str (b2s r_5.Body))) [] (by kernel_rfl) (by kernel_rfl) (by kernel_rfl) (cut_bs _) ?_
                refine RunAt.chunk 2 [⟨.d (.sl (List.map (D.int .u8) b1)), []⟩, ⟨.d (.sl (List.map (D.int .u8) b1)), []⟩] (by kernel_rfl) ?_
                refine RunAt.cut (some 86) .lenL [] none [.d (.sl (List.map (D.int .u8) b1))] (.d (.int .i64 (b1.length : Int))) [] (by kernel_rfl) (by kernel_rfl) (by kernel_rfl) (cut_len _) ?_
                refine RunAt.chunk 1 [⟨.d (.int .i64 (mnI (b1.length : Int) 30)), []⟩] (by kernel_rfl) ?_
                obtain ⟨z_4, hz_4, h⟩ := bind_s h
                refine RunAt.cut (some 88) (.subsl 1 false true false) [] none [.d (.sl (List.map (D.int .u8) b1)), .d (.int .i64 (mnI (b1.length : Int) 30))] (.d (.sl (List.map (D.int .u8) z_4))) [] (by kernel_rfl) (by kernel_rfl) (by kernel_rfl) (cut_slFT hz_4 (fun _ => rfl)) ?_
                refine RunAt.cut (some 89) .bytesStr [[81]] none [.d (.sl (List.map (D.int .u8) z_4))] (.d (.str (b2s z_4))) [] (by kernel_rfl) (by kernel_rfl) (by kernel_rfl) (cut_bs _) ?_
                refine RunAt.chunk 4 [⟨.d (.bool ((b2s r_5.Body) == (b2s z_4))), []⟩, ⟨.d (.bool ((b2s r_5.Body) == (b2s z_4))), []⟩, ⟨.d (.bool ((b2s r_5.Body) == (b2s z_4))), []⟩, ⟨.d (.bool ((b2s r_5.Body) == (b2s z_4))), []⟩] (by kernel_rfl) ?_
                refine RunAt.done (by kernel_rfl) ?_
                refine kS_nrm ?_
                refine Runs.ret ?_
                obtain rfl := Option.some.inj h
                exact ⟨Out.ret_ne, (by kernel_rfl)⟩
            | false =>
              replace h := ite_f hb_7 h
              refine RunAt.chunk 17 [⟨.tup [], []⟩, ⟨.tup [], []⟩, ⟨.tup [], []⟩, ⟨.tup [], []⟩, ⟨.tup [], []⟩, ⟨.tup [], []⟩, ⟨.tup [], []⟩, ⟨.tup [], []⟩, ⟨.tup [], []⟩, ⟨.tup [], []⟩, ⟨.tup [], []⟩, ⟨.tup [], []⟩, ⟨.tup [], []⟩, ⟨.tup [], []⟩, ⟨.tup [], []⟩, ⟨.d (.bool false), []⟩, ⟨.d (.bool false), []⟩] (by kernel_rfl) ?_
              refine RunAt.done (by kernel_rfl) ?_
              refine kS_nrm ?_
              refine Runs.ret ?_
              obtain rfl := Option.some.inj h
              exact ⟨Out.ret_ne, (by kernel_rfl)⟩
          | false =>
            replace h := ite_f hb_6 h
            refine RunAt.chunk 22 [⟨.tup [], []⟩, ⟨.tup [], []⟩, ⟨.tup [], []⟩, ⟨.d (.bool false), []⟩, ⟨.d (.bool false), []⟩, ⟨.tup [], []⟩, ⟨.tup [], []⟩, ⟨.tup [], []⟩, ⟨.tup [], []⟩, ⟨.tup [], []⟩, ⟨.tup [], []⟩, ⟨.tup [], []⟩, ⟨.tup [], []⟩, ⟨.tup [], []⟩, ⟨.tup [], []⟩, ⟨.tup [], []⟩, ⟨.tup [], []⟩, ⟨.tup [], []⟩, ⟨.tup [], []⟩, ⟨.tup [], []⟩, ⟨.d (.bool false), []⟩, ⟨.d (.bool false), []⟩] (by kernel_rfl) ?_
            refine RunAt.done (by kernel_rfl) ?_
            refine kS_nrm ?_
            refine Runs.ret ?_
            obtain rfl := Option.some.inj h
            exact ⟨Out.ret_ne, (by kernel_rfl)⟩
        | false =>
          replace h := ite_f hb_5 h
          refine RunAt.chunk 27 [⟨.tup [], []⟩, ⟨.tup [], []⟩, ⟨.tup [], []⟩, ⟨.d (.bool false), []⟩, ⟨.d (.bool false), []⟩, ⟨.tup [], []⟩, ⟨.tup [], []⟩, ⟨.tup [], []⟩, ⟨.d (.bool false), []⟩, ⟨.d (.bool false), []⟩, ⟨.tup [], []⟩, ⟨.tup [], []⟩, ⟨.tup [], []⟩, ⟨.tup [], []⟩, ⟨.tup [], []⟩, ⟨.tup [], []⟩, ⟨.tup [], []⟩, ⟨.tup [], []⟩, ⟨.tup [], []⟩, ⟨.tup [], []⟩, ⟨.tup [], []⟩, ⟨.tup [], []⟩, ⟨.tup [], []⟩, ⟨.tup [], []⟩, ⟨.tup [], []⟩, ⟨.d (.bool false), []⟩, ⟨.d (.bool false), []⟩] (by kernel_rfl) ?_
          refine RunAt.done (by kernel_rfl) ?_
          refine kS_nrm ?_
          refine Runs.ret ?_
          obtain rfl := Option.some.inj h
          exact ⟨Out.ret_ne, (by kernel_rfl)⟩
      | false =>
        replace h := ite_f hb_4 h
        refine RunAt.chunk 31 [⟨.tup [], []⟩, ⟨.tup [], []⟩, ⟨.d (.bool false), []⟩, ⟨.d (.bool false), []⟩, ⟨.tup [], []⟩, ⟨.tup [], []⟩, ⟨.tup [], []⟩, ⟨.d (.bool false), []⟩, ⟨.d (.bool false), []⟩, ⟨.tup [], []⟩, ⟨.tup [], []⟩, ⟨.tup [], []⟩, ⟨.d (.bool false), []⟩, ⟨.d (.bool false), []⟩, ⟨.tup [], []⟩, ⟨.tup [], []⟩, ⟨.tup [], []⟩, ⟨.tup [], []⟩, ⟨.tup [], []⟩, ⟨.tup [], []⟩, ⟨.tup [], []⟩, ⟨.tup [], []⟩, ⟨.tup [], []⟩, ⟨.tup [], []⟩, ⟨.tup [], []⟩, ⟨.tup [], []⟩, ⟨.tup [], []⟩, ⟨.tup [], []⟩, ⟨.tup [], []⟩, ⟨.d (.bool false), []⟩, ⟨.d (.bool false), []⟩] (by kernel_rfl) ?_
        refine RunAt.done (by kernel_rfl) ?_
        refine kS_nrm ?_
        refine Runs.ret ?_
        obtain rfl := Option.some.inj h
        exact ⟨Out.ret_ne, (by kernel_rfl)⟩
    | false =>
      replace h := ite_f hb_3 h
      refine RunAt.chunk 46 [⟨.tup [], []⟩, ⟨.tup [], []⟩, ⟨.tup [], []⟩, ⟨.tup [], []⟩, ⟨.tup [], []⟩, ⟨.tup [], []⟩, ⟨.tup [], []⟩, ⟨.tup [], []⟩, ⟨.tup [], []⟩, ⟨.tup [], []⟩, ⟨.tup [], []⟩, ⟨.tup [], []⟩, ⟨.tup [], []⟩, ⟨.d (.bool false), []⟩, ⟨.d (.bool false), []⟩, ⟨.tup [], []⟩, ⟨.tup [], []⟩, ⟨.d (.bool false), []⟩, ⟨.d (.bool false), []⟩, ⟨.tup [], []⟩, ⟨.tup [], []⟩, ⟨.tup [], []⟩, ⟨.d (.bool false), []⟩, ⟨.d (.bool false), []⟩, ⟨.tup [], []⟩, ⟨.tup [], []⟩, ⟨.tup [], []⟩, ⟨.d (.bool false), []⟩, ⟨.d (.bool false), []⟩, ⟨.tup [], []⟩, ⟨.tup [], []⟩, ⟨.tup [], []⟩, ⟨.tup [], []⟩, ⟨.tup [], []⟩, ⟨.tup [], []⟩, ⟨.tup [], []⟩, ⟨.tup [], []⟩, ⟨.tup [], []⟩, ⟨.tup [], []⟩, ⟨.tup [], []⟩, ⟨.tup [], []⟩, ⟨.tup [], []⟩, ⟨.tup [], []⟩, ⟨.tup [], []⟩, ⟨.d (.bool false), []⟩, ⟨.d (.bool false), []⟩] (by kernel_rfl) ?_
      refine RunAt.done (by kernel_rfl) ?_
      refine kS_nrm ?_
      refine Runs.ret ?_
      obtain rfl := Option.some.inj h
      exact ⟨Out.ret_ne, (by kernel_rfl)⟩
  | false =>
    replace h := ite_f hb_2 h
    refine RunAt.chunk 51 [⟨.tup [], []⟩, ⟨.tup [], []⟩, ⟨.tup [], []⟩, ⟨.d (.bool false), []⟩, ⟨.d (.bool false), []⟩, ⟨.tup [], []⟩, ⟨.tup [], []⟩, ⟨.tup [], []⟩, ⟨.tup [], []⟩, ⟨.tup [], []⟩, ⟨.tup [], []⟩, ⟨.tup [], []⟩, ⟨.tup [], []⟩, ⟨.tup [], []⟩, ⟨.tup [], []⟩, ⟨.tup [], []⟩, ⟨.tup [], []⟩, ⟨.tup [], []⟩, ⟨.d (.bool false), []⟩, ⟨.d (.bool false), []⟩, ⟨.tup [], []⟩, ⟨.tup [], []⟩, ⟨.d (.bool false), []⟩, ⟨.d (.bool false), []⟩, ⟨.tup [], []⟩, ⟨.tup [], []⟩, ⟨.tup [], []⟩, ⟨.d (.bool false), []⟩, ⟨.d (.bool false), []⟩, ⟨.tup [], []⟩, ⟨.tup [], []⟩, ⟨.tup [], []⟩, ⟨.d (.bool false), []⟩, ⟨.d (.bool false), []⟩, ⟨.tup [], []⟩, ⟨.tup [], []⟩, ⟨.tup [], []⟩, ⟨.tup [], []⟩, ⟨.tup [], []⟩, ⟨.tup [], []⟩, ⟨.tup [], []⟩, ⟨.tup [], []⟩, ⟨.tup [], []⟩, ⟨.tup [], []⟩, ⟨.tup [], []⟩, ⟨.tup [], []⟩, ⟨.tup [], []⟩, ⟨.tup [], []⟩, ⟨.tup [], []⟩, ⟨.d (.bool false), []⟩, ⟨.d (.bool false), []⟩] (by kernel_rfl) ?_
    refine RunAt.done (by kernel_rfl) ?_
    refine kS_nrm ?_
    refine Runs.ret ?_
    obtain rfl := Option.some.inj h
    exact ⟨Out.ret_ne, (by kernel_rfl)⟩
theorem hansomlaw20_NamesRemark_ok (c_ : Comment) (b_ : (List Int)) (r : Bool) (h : hansomlaw20_NamesRemark c_ b_ = some r) : Runs L F9.body ⟨tmOf [.d (Comment.d c_), .d (.sl (List.map (D.int .u8) b_))] 0, updW (fun _ => none) []⟩ (hansomlaw20_NamesRemark_Q c_ b_ r) := by
  unfold hansomlaw20_NamesRemark at h
  refine Runs.seq ?_
  refine Runs.ops ?_
  refine RunAt.chunk 2 [⟨.ptr [2] 0 0, [([2], some (.cells [.d (.int .u8 c_.Flags), .d (.int .u8 c_.Class), .d (.str c_.Text)] 0))]⟩, ⟨.d (.bool false), []⟩] (by kernel_rfl) ?_
  refine RunAt.done (by kernel_rfl) ?_
  refine kS_nrm ?_
  refine Runs.seq ?_
  refine Runs.ops ?_
  refine RunAt.chunk 3 [⟨.d (Comment.d c_), []⟩, ⟨.ptr [5] 0 0, [([5], some (.cells [.d (.int .u8 0), .d (.int .u8 0), .d (.str [])] 0))]⟩, ⟨.tup [], [([5], some (.cells [.d (.int .u8 c_.Flags), .d (.int .u8 c_.Class), .d (.str c_.Text)] 0))]⟩] (by kernel_rfl) ?_
  refine RunAt.done (by kernel_rfl) ?_
  refine kS_nrm ?_
  refine Runs.seq ?_
  refine Runs.ops ?_
  refine RunAt.chunk 4 [⟨.ptr [2] 0 2, []⟩, ⟨.d (.str c_.Text), []⟩, ⟨.ptr [2] 0 2, []⟩, ⟨.d (.str c_.Text), []⟩] (by kernel_rfl) ?_
  refine RunAt.cut (some 17) .lenS [] none [.d (.str c_.Text)] (.d (.int .i64 (c_.Text.length : Int))) [] (by kernel_rfl) (by kernel_rfl) (by kernel_rfl) (cut_lenS _) ?_
  refine RunAt.chunk 1 [⟨.d (.int .i64 (mnI (c_.Text.length : Int) 100)), []⟩] (by kernel_rfl) ?_
  obtain ⟨z_1, hz_1, h⟩ := bind_s h
  refine RunAt.cut (some 19) (.substr false true) [] none [.d (.str c_.Text), .d (.int .i64 (mnI (c_.Text.length : Int) 100))] (.d (.str z_1)) [] (by kernel_rfl) (by kernel_rfl) (by kernel_rfl) (cut_strFT hz_1) ?_
  refine RunAt.chunk 2 [⟨.ptr [5] 0 2, []⟩, ⟨.tup [], [([5], some (.cells [.d (.int .u8 c_.Flags), .d (.int .u8 c_.Class), .d (.str z_1)] 0))]⟩] (by kernel_rfl) ?_
  refine RunAt.done (by kernel_rfl) ?_
  refine kS_nrm ?_
  refine Runs.seq ?_
  refine Runs.ops ?_
  refine RunAt.chunk 1 [⟨.d (.agg [.int .u8 c_.Flags, .int .u8 c_.Class, .str z_1]), []⟩] (by kernel_rfl) ?_
  obtain ⟨r_1, hr_1, h⟩ := bind_s h
  have hc_1 := names_Remark_L ({ Flags := c_.Flags, Class := c_.Class, Text := z_1 } : Comment) r_1 hr_1
  refine RunAt.cut (some 22) (.callf 38) [] none [.d (.agg [.int .u8 c_.Flags, .int .u8 c_.Class, .str z_1])] (.d (Record.d r_1)) [] (by kernel_rfl) (by kernel_rfl) (by kernel_rfl) (cut_call (call_of (ws := []) (us := []) (by kernel_rfl) (by kernel_rfl) hc_1 (by kernel_rfl) (by kernel_rfl))) ?_
  refine RunAt.chunk 2 [⟨.ptr [6] 0 0, [([6], some (.cells [.d (.int .u8 0), .nils] 0))]⟩, ⟨.tup [], [([6], some (.cells [.d (.int .u8 r_1.Kind), .d (.sl (List.map (D.int .u8) r_1.Body))] 0))]⟩] (by kernel_rfl) ?_
  refine RunAt.done (by kernel_rfl) ?_
  refine kS_nrm ?_
  refine Runs.seq ?_
  refine Runs.ops ?_
  refine RunAt.chunk 2 [⟨.ptr [6] 0 1, []⟩, ⟨.d (.sl (List.map (D.int .u8) r_1.Body)), []⟩] (by kernel_rfl) ?_
  obtain ⟨r_2, hr_2, h⟩ := bind_s h
  have hc_2 := names_Comment_L r_1.Body r_2 hr_2
  refine RunAt.cut (some 26) (.callf 39) [] none [.d (.sl (List.map (D.int .u8) r_1.Body))] (.tup [.d (Comment.d r_2.1), .d (.int .i64 r_2.2)]) [] (by kernel_rfl) (by kernel_rfl) (by kernel_rfl) (cut_call (call_of (ws := []) (us := []) (by kernel_rfl) (by kernel_rfl) hc_2 (by kernel_rfl) (by kernel_rfl))) ?_
  refine RunAt.chunk 6 [⟨.tup [.d (Comment.d r_2.1), .d (.int .i64 r_2.2)], []⟩, ⟨.d (Comment.d r_2.1), []⟩, ⟨.d (.int .i64 r_2.2), []⟩, ⟨.ptr [7] 0 0, [([7], some (.cells [.d (.int .u8 0), .d (.int .u8 0), .d (.str [])] 0))]⟩, ⟨.tup [], [([7], some (.cells [.d (.int .u8 r_2.1.Flags), .d (.int .u8 r_2.1.Class), .d (.str r_2.1.Text)] 0))]⟩, ⟨.d (.int .i64 r_2.2), []⟩] (by kernel_rfl) ?_
  refine RunAt.done (by kernel_rfl) ?_
  refine kS_nrm ?_
  refine Runs.seq ?_
  refine Runs.ops ?_
  refine RunAt.chunk 2 [⟨.d (.sl (List.map (D.int .u8) b_)), []⟩, ⟨.d (.sl (List.map (D.int .u8) b_)), []⟩] (by kernel_rfl) ?_
  refine RunAt.cut (some 32) .lenL [] none [.d (.sl (List.map (D.int .u8) b_))] (.d (.int .i64 (b_.length : Int))) [] (by kernel_rfl) (by kernel_rfl) (by kernel_rfl) (cut_len _) ?_
  refine RunAt.chunk 1 [⟨.d (.int .i64 (mnI (b_.length : Int) 30)), []⟩] (by kernel_rfl) ?_
  obtain ⟨z_2, hz_2, h⟩ := bind_s h
  refine RunAt.cut (some 34) (.subsl 1 false true false) [] none [.d (.sl (List.map (D.int .u8) b_)), .d (.int .i64 (mnI (b_.length : Int) 30))] (.d (.sl (List.map (D.int .u8) z_2))) [] (by kernel_rfl) (by kernel_rfl) (by kernel_rfl) (cut_slFT hz_2 (fun _ => rfl)) ?_
  obtain ⟨r_3, hr_3, h⟩ := bind_s h
  have hc_3 := names_Comment_L z_2 r_3 hr_3
  refine RunAt.cut (some 35) (.callf 39) [] none [.d (.sl (List.map (D.int .u8) z_2))] (.tup [.d (Comment.d r_3.1), .d (.int .i64 r_3.2)]) [] (by kernel_rfl) (by kernel_rfl) (by kernel_rfl) (cut_call (call_of (ws := []) (us := []) (by kernel_rfl) (by kernel_rfl) hc_3 (by kernel_rfl) (by kernel_rfl))) ?_
  refine RunAt.chunk 6 [⟨.tup [.d (Comment.d r_3.1), .d (.int .i64 r_3.2)], []⟩, ⟨.d (Comment.d r_3.1), []⟩, ⟨.d (.int .i64 r_3.2), []⟩, ⟨.ptr [9] 0 0, [([9], some (.cells [.d (.int .u8 0), .d (.int .u8 0), .d (.str [])] 0))]⟩, ⟨.tup [], [([9], some (.cells [.d (.int .u8 r_3.1.Flags), .d (.int .u8 r_3.1.Class), .d (.str r_3.1.Text)] 0))]⟩, ⟨.d (.int .i64 r_3.2), []⟩] (by kernel_rfl) ?_
  refine RunAt.done (by kernel_rfl) ?_
  refine kS_nrm ?_
  refine Runs.seq ?_
  refine Runs.ops ?_
  refine RunAt.chunk 1 [⟨.d (.int .i64 0), []⟩] (by kernel_rfl) ?_
  refine RunAt.done (by kernel_rfl) ?_
  refine kS_nrm ?_
  refine Runs.seq ?_
  refine Runs.seq ?_
  refine Runs.ops ?_
  refine RunAt.chunk 1 [⟨.d (.sl (List.map (D.int .u8) b_)), []⟩] (by kernel_rfl) ?_
  refine RunAt.cut (some 39) .lenL [] none [.d (.sl (List.map (D.int .u8) b_))] (.d (.int .i64 (b_.length : Int))) [] (by kernel_rfl) (by kernel_rfl) (by kernel_rfl) (cut_len _) ?_
  refine RunAt.chunk 1 [⟨.d (.bool (decide ((b_.length : Int) < 2))), []⟩] (by kernel_rfl) ?_
  refine RunAt.done (by kernel_rfl) ?_
  refine kS_nrm ?_
  cases hb_1 : ((decide ((b_.length : Int) < 2)) : Bool) with
  | true =>
    replace h := ite_t hb_1 h
    refine Runs.cond_t (by kernel_rfl) ?_
    refine Runs.ops ?_
    refine RunAt.chunk 1 [⟨.d (.int .i64 2), []⟩] (by kernel_rfl) ?_
    refine RunAt.done (by kernel_rfl) ?_
    refine kS_nrm ?_
    refine Runs.canon (hansomlaw20_NamesRemark_h20 c_ ({ Flags := c_.Flags, Class := c_.Class, Text := z_1 } : Comment) r_1 r_2.1 r_3.1 b_ r_2.2 r_3.2 2) (Canon.nil (by kernel_rfl)) ?_
    exact hansomlaw20_NamesRemark_j20_ok c_ b_ c_ ({ Flags := c_.Flags, Class := c_.Class, Text := z_1 } : Comment) r_1 r_2.1 r_3.1 b_ r_2.2 r_3.2 2 r h
  | false =>
    replace h := ite_f hb_1 h
    refine Runs.cond_f (by kernel_rfl) ?_
    refine Runs.skip ?_
    refine kS_nrm ?_
    refine Runs.canon (hansomlaw20_NamesRemark_h20 c_ ({ Flags := c_.Flags, Class := c_.Class, Text := z_1 } : Comment) r_1 r_2.1 r_3.1 b_ r_2.2 r_3.2 0) (Canon.nil (by kernel_rfl)) ?_
    exact hansomlaw20_NamesRemark_j20_ok c_ b_ c_ ({ Flags := c_.Flags, Class := c_.Class, Text := z_1 } : Comment) r_1 r_2.1 r_3.1 b_ r_2.2 r_3.2 0 r h
theorem hansomlaw20_NamesRemark_L (c_ : Comment) (b_ : (List Int)) (r : Bool) (h : hansomlaw20_NamesRemark c_ b_ = some r) : L 9 [.d (Comment.d c_), .d (.sl (List.map (D.int .u8) b_))] = some (.d (.bool r), [.d (Comment.d c_), .d (.sl (List.map (D.int .u8) b_))]) := by
  obtain ⟨p, ⟨hne, hf⟩, hr⟩ := hansomlaw20_NamesRemark_ok c_ b_ r h
  obtain ⟨k, hk⟩ := run_of (F := F9) (args := [.d (Comment.d c_), .d (.sl (List.map (D.int .u8) b_))]) (ap := [.d (Comment.d c_), .d (.sl (List.map (D.int .u8) b_))]) (bx0 := updW (fun _ => none) []) rfl rfl (by kernel_rfl) ⟨p, ⟨hne, hf⟩, hr⟩
  exact lim_run (k := k) rfl hk
def names_List_h4 (r3 : Record) (b_2_0 : Int) (l0 : (List (List UInt8))) (v_901_3 : Nat) : St := ⟨tab [(0, .d (.sl (List.map D.str l0))), (2, .ptr [2] 0 0), (3, .ptr [3] 0 0)], tabB [([2], some (.cells [.d (.int .u8 b_2_0), .nils] 0)), ([3], some (.cells [.d (.int .u8 r3.Kind), .ref [901, 3] v_901_3 0 (List.map (D.int .u8) r3.Body).length 1] 0)), ([901, 3], some (.arr (List.map (D.int .u8) r3.Body) v_901_3 false))]⟩
def names_List_h8 (r3 : Record) (b_2_0 : Int) (t7 : (List (List UInt8))) (t8 : Int) (t9 : Int) (v_901_3 : Nat) : St := ⟨tab [(2, .ptr [2] 0 0), (3, .ptr [3] 0 0), (7, .d (.sl (List.map D.str t7))), (8, .d (.int .i64 t8)), (9, .d (.int .i64 t9))], tabB [([2], some (.cells [.d (.int .u8 b_2_0), .nils] 0)), ([3], some (.cells [.d (.int .u8 r3.Kind), .ref [901, 3] v_901_3 0 (List.map (D.int .u8) r3.Body).length 1] 0)), ([901, 3], some (.arr (List.map (D.int .u8) r3.Body) v_901_3 false))]⟩
def names_List_h21 (r3 : Record) (b_2_0 : Int) (v_901_3 : Nat) : St := ⟨tab [(2, .ptr [2] 0 0), (3, .ptr [3] 0 0)], tabB [([2], some (.cells [.d (.int .u8 b_2_0), .nils] 0)), ([3], some (.cells [.d (.int .u8 r3.Kind), .ref [901, 3] v_901_3 0 (List.map (D.int .u8) r3.Body).length 1] 0)), ([901, 3], some (.arr (List.map (D.int .u8) r3.Body) v_901_3 false))]⟩
def names_List_Q (l_ : (List (List UInt8))) (r : Record) (p : Out × St) : Prop := (∀ i, p.1 ≠ .exit i) ∧ finF F47 [.d (.sl (List.map D.str l_))] p.2 = some (.d (Record.d r), [.d (.sl (List.map D.str l_))])
def names_List_P8 (l_ : (List (List UInt8))) (b_2_0 : Int) (t7 : (List (List UInt8))) (t8 : Int) (e : Record) (p : Out × St) : Prop := p.1 = .exit 0 ∧ ∃ g : Nat, Canon [] [2, 3] [[2], [3], [901, 3]] p.2 (names_List_h21 e b_2_0 g)
theorem names_List_l8_ok (l_ : (List (List UInt8))) (r3 : Record) (b_2_0 : Int) (t7 : (List (List UInt8))) (t8 : Int) (t9 : Int) (v_901_3 : Nat) (r : (Lp (Record × Int) Record)) (h : names_List_l8 r3 b_2_0 t7 t8 t9 = some r) : Runs L F47l8 (names_List_h8 r3 b_2_0 t7 t8 t9 v_901_3) (LQ [] [2, 3, 7, 8, 9] [[2], [3], [901, 3]] (fun (x : (Record × Int)) (g : Nat) => names_List_h8 x.1 b_2_0 t7 t8 x.2 g) (names_List_P8 l_ b_2_0 t7 t8) r) := by
  unfold names_List_l8 at h
  refine Runs.seq ?_
  refine Runs.ops ?_
  refine RunAt.chunk 1 [⟨.d (.bool (decide (t9 < t8))), []⟩] (by kernel_rfl) ?_
  refine RunAt.done (by kernel_rfl) ?_
  refine kS_nrm ?_
  refine Runs.seq ?_
  cases hb_1 : ((decide (t9 < t8)) : Bool) with
  | true =>
    replace h := ite_t hb_1 h
    refine Runs.cond_t (by kernel_rfl) ?_
    refine Runs.skip ?_
    refine kS_nrm ?_
    refine Runs.seq ?_
    refine Runs.block ?_
    refine Runs.seq ?_
    refine Runs.ops ?_
    obtain ⟨z_1, hz_1, h⟩ := bind_s h
    refine RunAt.cut (some 11) (.iaddrS 1) [] none [.d (.sl (List.map D.str t7)), .d (.int .i64 t9)] (.elt (.str z_1) 0) [] (by kernel_rfl) (by kernel_rfl) (by kernel_rfl) (cut_at hz_1 (fun _ => rfl)) ?_
    refine RunAt.chunk 2 [⟨.d (.str z_1), []⟩, ⟨.d (.str z_1), []⟩] (by kernel_rfl) ?_
    refine RunAt.done (by kernel_rfl) ?_
    refine kS_nrm ?_
    refine Runs.ops ?_
    refine RunAt.chunk 3 [⟨.ptr [3] 0 1, []⟩, ⟨.ref [901, 3] v_901_3 0 (List.map (D.int .u8) r3.Body).length 1, []⟩, ⟨.d (.str z_1), []⟩] (by kernel_rfl) ?_
    obtain ⟨r_1, hr_1, h⟩ := bind_s h
    have hc_1 := index_Name_L z_1 r_1 hr_1
    refine RunAt.cut (some 16) (.callf 60) [] (some []) [.d (.str z_1)] (.d (.sl (List.map (D.int .u8) r_1))) [] (by kernel_rfl) (by kernel_rfl) (by kernel_rfl) (cut_call (call_of (ws := []) (us := []) (by kernel_rfl) (by kernel_rfl) hc_1 (by kernel_rfl) (by kernel_rfl))) ?_
    obtain ⟨z_2, hz_2, h⟩ := bind_s h
    refine RunAt.cut (some 17) (.append 1 1 false) [] none [.ref [901, 3] v_901_3 0 (List.map (D.int .u8) r3.Body).length 1, .d (.sl (List.map (D.int .u8) r_1))] (.ref [901, 3] (v_901_3 + 1) 0 (List.map (D.int .u8) z_2).length 1) [([901, 3], some (.arr (List.map (D.int .u8) z_2) (v_901_3 + 1) false))] (by kernel_rfl) (by kernel_rfl) (by kernel_rfl) (cut_appR (e := (D.int .u8)) (l := r3.Body) (fz := false) (ws := []) (ap_data _) (fun _ => rfl) hz_2 (by kernel_rfl) (by kernel_rfl) rfl) ?_
    refine RunAt.chunk 2 [⟨.ptr [3] 0 1, []⟩, ⟨.tup [], [([3], some (.cells [.d (.int .u8 r3.Kind), .ref [901, 3] (v_901_3 + 1) 0 (List.map (D.int .u8) z_2).length 1] 0))]⟩] (by kernel_rfl) ?_
    refine RunAt.done (by kernel_rfl) ?_
    refine kB_nrm ?_
    refine kS_nrm ?_
    refine Runs.ops ?_
    refine RunAt.chunk 2 [⟨.d (.int .i64 (IntKind.wrap .i64 (t9 + 1))), []⟩, ⟨.d (.int .i64 (IntKind.wrap .i64 (t9 + 1))), []⟩] (by kernel_rfl) ?_
    refine RunAt.done (by kernel_rfl) ?_
    obtain rfl := Option.some.inj h
    exact ⟨rfl, (v_901_3 + 1), (Canon.nil (by kernel_rfl))⟩
  | false =>
    replace h := ite_f hb_1 h
    refine Runs.cond_f (by kernel_rfl) ?_
    refine Runs.exit ?_
    refine kS_exit ?_
    obtain rfl := Option.some.inj h
    exact ⟨nofun, rfl, v_901_3, (Canon.nil (by kernel_rfl))⟩
theorem names_List_ok (l_ : (List (List UInt8))) (r : Record) (h : names_List l_ = some r) : Runs L F47.body ⟨tmOf [.d (.sl (List.map D.str l_))] 0, updW (fun _ => none) []⟩ (names_List_Q l_ r) := by
  unfold names_List at h
  refine Runs.seq ?_
  refine Runs.ops ?_
  refine RunAt.chunk 1 [⟨.ptr [2] 0 0, [([2], some (.cells [.d (.int .u8 0), .nils] 0))]⟩] (by kernel_rfl) ?_
  refine RunAt.done (by kernel_rfl) ?_
  refine kS_nrm ?_
  refine Runs.seq ?_
  refine Runs.ops ?_
  refine RunAt.chunk 3 [⟨.mix [.d (.int .u8 150), .nils], []⟩, ⟨.ptr [3] 0 0, [([3], some (.cells [.d (.int .u8 0), .nils] 0))]⟩, ⟨.tup [], [([3], some (.cells [.d (.int .u8 150), .nils] 0))]⟩] (by kernel_rfl) ?_
  refine RunAt.done (by kernel_rfl) ?_
  refine kS_nrm ?_
  refine Runs.canon (names_List_h4 ({ Kind := 150, Body := ([] : List Int) } : Record) 0 l_ 0) (Canon.cons (ownB_nil (ver := 0) (v := 0) (cs := [.d (.int .u8 150), .nils]) (cs' := [.d (.int .u8 150), .ref [901, 3] 0 0 (List.map (D.int .u8) ([] : List Int)).length 1]) (D.int .u8) (by kernel_rfl) (by kernel_rfl) (by kernel_rfl) (by decide) (by kernel_rfl)) (Canon.nil (by kernel_rfl))) ?_
  refine Runs.seq ?_
  refine Runs.seq ?_
  refine Runs.ops ?_
  refine RunAt.chunk 1 [⟨.d (.sl (List.map D.str l_)), []⟩] (by kernel_rfl) ?_
  refine RunAt.cut (some 8) .lenL [] none [.d (.sl (List.map D.str l_))] (.d (.int .i64 (l_.length : Int))) [] (by kernel_rfl) (by kernel_rfl) (by kernel_rfl) (cut_len _) ?_
  refine RunAt.chunk 1 [⟨.d (.int .i64 0), []⟩] (by kernel_rfl) ?_
  refine RunAt.done (by kernel_rfl) ?_
  refine kS_nrm ?_
  refine Runs.block ?_
  obtain ⟨e_1, he_1, h⟩ := bind_s h
  refine Runs.loop (fun x : (Record × Int) => names_List_l8 x.1 0 l_ (l_.length : Int) x.2) (fun (x : (Record × Int)) (g : Nat) => names_List_h8 x.1 0 l_ (l_.length : Int) x.2 g) (names_List_P8 l_ 0 l_ (l_.length : Int)) (fun x g r hr => names_List_l8_ok l_ x.1 0 l_ (l_.length : Int) x.2 g r hr) 0 he_1 (Canon.nil (by kernel_rfl)) ?_
  rintro ⟨o, s⟩ hp
  obtain ⟨ho, g_1, hk_1⟩ := hp
  have ho' : o = .exit 0 := ho
  subst ho'
  refine kB_hit ?_
  refine kS_nrm ?_
  refine Runs.canon _ hk_1 ?_
  refine Runs.seq ?_
  refine Runs.ops ?_
  refine RunAt.chunk 2 [⟨.mix [.d (.int .u8 e_1.Kind), .ref [901, 3] g_1 0 (List.map (D.int .u8) e_1.Body).length 1], []⟩, ⟨.tup [], [([2], some (.cells [.d (.int .u8 e_1.Kind), .ref [901, 3] g_1 0 (List.map (D.int .u8) e_1.Body).length 1] 0))]⟩] (by kernel_rfl) ?_
  refine RunAt.done (by kernel_rfl) ?_
  refine kS_nrm ?_
  refine Runs.seq ?_
  refine Runs.gcons (frzB_ref (e := (D.int .u8)) (l := e_1.Body) (id := [2]) (id' := [901, 3]) (v := g_1) (n := 1) (fz := false) (ver := 0) (cs := [.d (.int .u8 e_1.Kind), .ref [901, 3] g_1 0 (List.map (D.int .u8) e_1.Body).length 1]) (cs' := [.d (.int .u8 e_1.Kind), .d (.sl (List.map (D.int .u8) e_1.Body))]) (by kernel_rfl) (by kernel_rfl) (by kernel_rfl) (by decide) (by kernel_rfl) rfl) ?_
  refine Runs.gnil ?_
  refine kS_nrm ?_
  refine Runs.ret ?_
  obtain rfl := Option.some.inj h
  exact ⟨Out.ret_ne, (by kernel_rfl)⟩
theorem names_List_L (l_ : (List (List UInt8))) (r : Record) (h : names_List l_ = some r) : L 47 [.d (.sl (List.map D.str l_))] = some (.d (Record.d r), [.d (.sl (List.map D.str l_))]) := by
  obtain ⟨p, ⟨hne, hf⟩, hr⟩ := names_List_ok l_ r h
  obtain ⟨k, hk⟩ := run_of (F := F47) (args := [.d (.sl (List.map D.str l_))]) (ap := [.d (.sl (List.map D.str l_))]) (bx0 := updW (fun _ => none) []) rfl rfl (by kernel_rfl) ⟨p, ⟨hne, hf⟩, hr⟩
  exact lim_run (k := k) rfl hk
def names_Names_h6 (b_8 : Source) (out5 : (List (List UInt8))) (v_5 : Nat) : St := ⟨tab [(4, .ptr [8] 0 0), (5, .ref [5] v_5 0 (List.map D.str out5).length 1)], tabB [([8], some (.cells [.d (.sl (List.map (D.int .u8) b_8.b)), .d (.int .i64 b_8.e)] 0)), ([5], some (.arr (List.map D.str out5) v_5 false))]⟩
def names_Names_h8 (b_8 : Source) (out5 : (List (List UInt8))) (v_5 : Nat) : St := ⟨tab [(4, .ptr [8] 0 0), (5, .ref [5] v_5 0 (List.map D.str out5).length 1)], tabB [([8], some (.cells [.d (.sl (List.map (D.int .u8) b_8.b)), .d (.int .i64 b_8.e)] 0)), ([5], some (.arr (List.map D.str out5) v_5 false))]⟩
def names_Names_h17 (b_8 : Source) (out5 : (List (List UInt8))) (v_5 : Nat) : St := ⟨tab [(4, .ptr [8] 0 0), (5, .ref [5] v_5 0 (List.map D.str out5).length 1)], tabB [([8], some (.cells [.d (.sl (List.map (D.int .u8) b_8.b)), .d (.int .i64 b_8.e)] 0)), ([5], some (.arr (List.map D.str out5) v_5 false))]⟩
def names_Names_Q (b_ : (List Int)) (r : ((List (List UInt8)) × Int)) (p : Out × St) : Prop := (∀ i, p.1 ≠ .exit i) ∧ finF F48 [.d (.sl (List.map (D.int .u8) b_))] p.2 = some (.tup [.d (.sl (List.map D.str r.1)), .d (.int .i64 r.2)], [.d (.sl (List.map (D.int .u8) b_))])
def names_Names_P8 (b_ : (List Int))  (e : ((List (List UInt8)) × Source)) (p : Out × St) : Prop := p.1 = .exit 0 ∧ ∃ g : Nat, Canon [] [4, 5] [[8], [5]] p.2 (names_Names_h17 e.2 e.1 g)
theorem names_Names_l8_ok (b_ : (List Int)) (b_8 : Source) (out5 : (List (List UInt8))) (v_5 : Nat) (r : (Lp (Source × (List (List UInt8))) ((List (List UInt8)) × Source))) (h : names_Names_l8 b_8 out5 = some r) : Runs L F48l8 (names_Names_h8 b_8 out5 v_5) (LQ [] [4, 5] [[8], [5]] (fun (x : (Source × (List (List UInt8)))) (g : Nat) => names_Names_h8 x.1 x.2 g) (names_Names_P8 b_) r) := by
  unfold names_Names_l8 at h
  refine Runs.seq ?_
  refine Runs.seq ?_
  refine Runs.ops ?_
  refine RunAt.chunk 1 [⟨.ptr [8] 0 0, []⟩] (by kernel_rfl) ?_
  obtain ⟨r_2, hr_2, h⟩ := bind_s h
  have hc_2 := index_Source_Left_L b_8 r_2 hr_2
  refine RunAt.cut (some 10) (.callf 66) [] none [.ptr [8] 0 0] (.d (.int .i64 r_2)) [([8], some (.cells [.d (.sl (List.map (D.int .u8) b_8.b)), .d (.int .i64 b_8.e)] 0))] (by kernel_rfl) (by kernel_rfl) (by kernel_rfl) (cut_call (call_of (ws := []) (us := [([8], some (.cells [.d (.sl (List.map (D.int .u8) b_8.b)), .d (.int .i64 b_8.e)] 0))]) (by kernel_rfl) (by kernel_rfl) hc_2 (by kernel_rfl) (by kernel_rfl))) ?_
  refine RunAt.chunk 1 [⟨.d (.bool (decide (r_2 > 0))), []⟩] (by kernel_rfl) ?_
  refine RunAt.done (by kernel_rfl) ?_
  refine kS_nrm ?_
  cases hb_1 : ((decide (r_2 > 0)) : Bool) with
  | true =>
    replace h := ite_t hb_1 h
    refine Runs.cond_t (by kernel_rfl) ?_
    refine Runs.skip ?_
    refine kS_nrm ?_
    refine Runs.block ?_
    refine Runs.ops ?_
    refine RunAt.chunk 2 [⟨.ref [5] v_5 0 (List.map D.str out5).length 1, []⟩, ⟨.ptr [8] 0 0, []⟩] (by kernel_rfl) ?_
    obtain ⟨r_3, hr_3, h⟩ := bind_s h
    have hc_3 := index_Source_Name_L b_8 r_3 hr_3
    refine RunAt.cut (some 14) (.callf 62) [] none [.ptr [8] 0 0] (.d (.str r_3.1)) [([8], some (.cells [.d (.sl (List.map (D.int .u8) r_3.2.b)), .d (.int .i64 r_3.2.e)] 0))] (by kernel_rfl) (by kernel_rfl) (by kernel_rfl) (cut_call (call_of (ws := []) (us := [([8], some (.cells [.d (.sl (List.map (D.int .u8) r_3.2.b)), .d (.int .i64 r_3.2.e)] 0))]) (by kernel_rfl) (by kernel_rfl) hc_3 (by kernel_rfl) (by kernel_rfl))) ?_
    refine RunAt.chunk 1 [⟨.ref [15] 0 0 (List.map D.str ([r_3.1] : List (List UInt8))).length 1, [([15], some (.arr (List.map D.str ([r_3.1] : List (List UInt8))) 0 false))]⟩] (by kernel_rfl) ?_
    obtain ⟨z_1, hz_1, h⟩ := bind_s h
    refine RunAt.cut (some 16) (.append 1 16 false) [] none [.ref [5] v_5 0 (List.map D.str out5).length 1, .ref [15] 0 0 (List.map D.str ([r_3.1] : List (List UInt8))).length 1] (.ref [5] (v_5 + 1) 0 (List.map D.str z_1).length 1) [([15], some (.arr (List.map D.str ([r_3.1] : List (List UInt8))) 0 true)), ([5], some (.arr (List.map D.str z_1) (v_5 + 1) false))] (by kernel_rfl) (by kernel_rfl) (by kernel_rfl) (cut_appR (e := D.str) (l := out5) (fz := false) (ws := [([15], some (.arr (List.map D.str ([r_3.1] : List (List UInt8))) 0 true))]) (ap_ref (e := D.str) (l := ([r_3.1] : List (List UInt8))) (fz := false) (by kernel_rfl) (by kernel_rfl) rfl) (fun _ => rfl) hz_1 (by kernel_rfl) (by kernel_rfl) rfl) ?_
    refine RunAt.chunk 1 [⟨.ref [5] (v_5 + 1) 0 (List.map D.str z_1).length 1, []⟩] (by kernel_rfl) ?_
    refine RunAt.done (by kernel_rfl) ?_
    refine kB_nrm ?_
    obtain rfl := Option.some.inj h
    exact ⟨rfl, (v_5 + 1), (Canon.nil (by kernel_rfl))⟩
  | false =>
    replace h := ite_f hb_1 h
    refine Runs.cond_f (by kernel_rfl) ?_
    refine Runs.exit ?_
    refine kS_exit ?_
    obtain rfl := Option.some.inj h
    exact ⟨nofun, rfl, v_5, (Canon.nil (by kernel_rfl))⟩
theorem names_Names_ok (b_ : (List Int)) (r : ((List (List UInt8)) × Int)) (h : names_Names b_ = some r) : Runs L F48.body ⟨tmOf [.d (.sl (List.map (D.int .u8) b_))] 0, updW (fun _ => none) []⟩ (names_Names_Q b_ r) := by
  unfold names_Names at h
  refine Runs.seq ?_
  refine Runs.ops ?_
  refine RunAt.chunk 2 [⟨.nils, []⟩, ⟨.d (.int .i64 0), []⟩] (by kernel_rfl) ?_
  refine RunAt.done (by kernel_rfl) ?_
  refine kS_nrm ?_
  refine Runs.seq ?_
  refine Runs.ops ?_
  refine RunAt.chunk 1 [⟨.d (.sl (List.map (D.int .u8) b_)), []⟩] (by kernel_rfl) ?_
  obtain ⟨r_1, hr_1, h⟩ := bind_s h
  have hc_1 := index_From_L b_ r_1 hr_1
  refine RunAt.cut (some 8) (.callf 61) [] none [.d (.sl (List.map (D.int .u8) b_))] (.ptr [8] 0 0) [([8], some (.cells [.d (.sl (List.map (D.int .u8) r_1.b)), .d (.int .i64 r_1.e)] 0))] (by kernel_rfl) (by kernel_rfl) (by kernel_rfl) (cut_call (call_of (ws := []) (us := []) (by kernel_rfl) (by kernel_rfl) hc_1 (by kernel_rfl) (by kernel_rfl))) ?_
  refine RunAt.chunk 1 [⟨.ptr [8] 0 0, []⟩] (by kernel_rfl) ?_
  refine RunAt.done (by kernel_rfl) ?_
  refine kS_nrm ?_
  refine Runs.seq ?_
  refine Runs.ops ?_
  refine RunAt.chunk 1 [⟨.nils, []⟩] (by kernel_rfl) ?_
  refine RunAt.done (by kernel_rfl) ?_
  refine kS_nrm ?_
  refine Runs.canon (names_Names_h6 r_1 ([] : List (List UInt8)) 0) (Canon.cons (own_nil D.str (v := 0) (by kernel_rfl) (by kernel_rfl)) (Canon.nil (by kernel_rfl))) ?_
  refine Runs.seq ?_
  refine Runs.block ?_
  obtain ⟨e_1, he_1, h⟩ := bind_s h
  refine Runs.loop (fun x : (Source × (List (List UInt8))) => names_Names_l8 x.1 x.2) (fun (x : (Source × (List (List UInt8)))) (g : Nat) => names_Names_h8 x.1 x.2 g) (names_Names_P8 b_) (fun x g r hr => names_Names_l8_ok b_ x.1 x.2 g r hr) 0 he_1 (Canon.nil (by kernel_rfl)) ?_
  rintro ⟨o, s⟩ hp
  obtain ⟨ho, g_1, hk_1⟩ := hp
  have ho' : o = .exit 0 := ho
  subst ho'
  refine kB_hit ?_
  refine kS_nrm ?_
  refine Runs.canon _ hk_1 ?_
  refine Runs.seq ?_
  refine Runs.seq ?_
  refine Runs.ops ?_
  refine RunAt.chunk 1 [⟨.ptr [8] 0 0, []⟩] (by kernel_rfl) ?_
  obtain ⟨r_2, hr_2, h⟩ := bind_s h
  have hc_2 := index_Source_Err_L e_1.2 r_2 hr_2
  refine RunAt.cut (some 18) (.callf 67) [] none [.ptr [8] 0 0] (.d (.int .i64 r_2)) [([8], some (.cells [.d (.sl (List.map (D.int .u8) e_1.2.b)), .d (.int .i64 e_1.2.e)] 0))] (by kernel_rfl) (by kernel_rfl) (by kernel_rfl) (cut_call (call_of (ws := []) (us := [([8], some (.cells [.d (.sl (List.map (D.int .u8) e_1.2.b)), .d (.int .i64 e_1.2.e)] 0))]) (by kernel_rfl) (by kernel_rfl) hc_2 (by kernel_rfl) (by kernel_rfl))) ?_
  refine RunAt.chunk 1 [⟨.d (.int .i64 r_2), []⟩] (by kernel_rfl) ?_
  refine RunAt.done (by kernel_rfl) ?_
  refine kS_nrm ?_
  refine Runs.seq ?_
  refine Runs.ops ?_
  refine RunAt.chunk 2 [⟨.d (.int .i64 r_2), []⟩, ⟨.d (.bool (r_2 != 0)), []⟩] (by kernel_rfl) ?_
  refine RunAt.done (by kernel_rfl) ?_
  refine kS_nrm ?_
  cases hb_1 : ((r_2 != 0) : Bool) with
  | true =>
    replace h := ite_t hb_1 h
    refine Runs.cond_t (by kernel_rfl) ?_
    refine Runs.seq ?_
    refine Runs.ops ?_
    refine RunAt.chunk 3 [⟨.d (.int .i64 r_2), []⟩, ⟨.nils, []⟩, ⟨.d (.int .i64 r_2), []⟩] (by kernel_rfl) ?_
    refine RunAt.done (by kernel_rfl) ?_
    refine kS_nrm ?_
    refine Runs.seq ?_
    refine Runs.gcons (frz_nil D.str (by kernel_rfl)) ?_
    refine Runs.gnil ?_
    refine kS_nrm ?_
    refine Runs.ret ?_
    refine kS_ret ?_
    obtain rfl := Option.some.inj h
    exact ⟨Out.ret_ne, (by kernel_rfl)⟩
  | false =>
    replace h := ite_f hb_1 h
    refine Runs.cond_f (by kernel_rfl) ?_
    refine Runs.skip ?_
    refine kS_nrm ?_
    refine Runs.seq ?_
    refine Runs.ops ?_
    refine RunAt.chunk 3 [⟨.ref [5] g_1 0 (List.map D.str e_1.1).length 1, []⟩, ⟨.ref [5] g_1 0 (List.map D.str e_1.1).length 1, []⟩, ⟨.d (.int .i64 0), []⟩] (by kernel_rfl) ?_
    refine RunAt.done (by kernel_rfl) ?_
    refine kS_nrm ?_
    refine Runs.seq ?_
    refine Runs.gcons (frz_ref (e := D.str) (l := e_1.1) (id := [5]) (v := g_1) (n := 1) (fz := false) (by kernel_rfl) (by kernel_rfl) rfl) ?_
    refine Runs.gnil ?_
    refine kS_nrm ?_
    refine Runs.ret ?_
    obtain rfl := Option.some.inj h
    exact ⟨Out.ret_ne, (by kernel_rfl)⟩
theorem names_Names_L (b_ : (List Int)) (r : ((List (List UInt8)) × Int)) (h : names_Names b_ = some r) : L 48 [.d (.sl (List.map (D.int .u8) b_))] = some (.tup [.d (.sl (List.map D.str r.1)), .d (.int .i64 r.2)], [.d (.sl (List.map (D.int .u8) b_))]) := by
  obtain ⟨p, ⟨hne, hf⟩, hr⟩ := names_Names_ok b_ r h
  obtain ⟨k, hk⟩ := run_of (F := F48) (args := [.d (.sl (List.map (D.int .u8) b_))]) (ap := [.d (.sl (List.map (D.int .u8) b_))]) (bx0 := updW (fun _ => none) []) rfl rfl (by kernel_rfl) ⟨p, ⟨hne, hf⟩, hr⟩
  exact lim_run (k := k) rfl hk
def hansomlaw20_NamesList_h8 (b_15 : (List (List UInt8))) (l0 : (List (List UInt8))) (cut1 : Int) (b6 : (List UInt8)) (i7 : Int) (v_15 : Nat) : St := ⟨tab [(0, .d (.sl (List.map D.str l0))), (1, .d (.int .i64 cut1)), (5, .ref [15] v_15 0 (List.map D.str b_15).length 1), (6, .d (.str b6)), (7, .d (.int .i64 i7))], tabB [([15], some (.arr (List.map D.str b_15) v_15 false))]⟩
def hansomlaw20_NamesList_h21 (b_15 : (List (List UInt8))) (cut1 : Int) (b6 : (List UInt8)) (v_15 : Nat) : St := ⟨tab [(1, .d (.int .i64 cut1)), (5, .ref [15] v_15 0 (List.map D.str b_15).length 1), (6, .d (.str b6))], tabB [([15], some (.arr (List.map D.str b_15) v_15 false))]⟩
def hansomlaw20_NamesList_h37 (b_15 : (List (List UInt8))) (cut1 : Int) (b6 : (List UInt8)) (got9 : (List (List UInt8))) (i11 : Int) (v_15 : Nat) (f_15 : Bool) : St := ⟨tab [(1, .d (.int .i64 cut1)), (5, .ref [15] v_15 0 (List.map D.str b_15).length 1), (6, .d (.str b6)), (9, .d (.sl (List.map D.str got9))), (11, .d (.int .i64 i11))], tabB [([15], some (.arr (List.map D.str b_15) v_15 f_15))]⟩
def hansomlaw20_NamesList_h54 (b_15 : (List (List UInt8))) (cut1 : Int) (b6 : (List UInt8)) (v_15 : Nat) (f_15 : Bool) : St := ⟨tab [(1, .d (.int .i64 cut1)), (5, .ref [15] v_15 0 (List.map D.str b_15).length 1), (6, .d (.str b6))], tabB [([15], some (.arr (List.map D.str b_15) v_15 f_15))]⟩
def hansomlaw20_NamesList_Q (l_ : (List (List UInt8))) (cut_ : Int) (r : Bool) (p : Out × St) : Prop := (∀ i, p.1 ≠ .exit i) ∧ finF F12 [.d (.sl (List.map D.str l_)), .d (.int .i64 cut_)] p.2 = some (.d (.bool r), [.d (.sl (List.map D.str l_)), .d (.int .i64 cut_)])
def hansomlaw20_NamesList_P8 (l_ : (List (List UInt8))) (cut_ : Int) (l0 : (List (List UInt8))) (cut1 : Int) (e : ((List (List UInt8)) × (List UInt8))) (p : Out × St) : Prop := p.1 = .exit 0 ∧ ∃ g : Nat, Canon [] [1, 5, 6] [[15]] p.2 (hansomlaw20_NamesList_h21 e.1 cut1 e.2 g)
def hansomlaw20_NamesList_P37 (l_ : (List (List UInt8))) (cut_ : Int) (b_15 : (List (List UInt8))) (cut1 : Int) (b6 : (List UInt8)) (got9 : (List (List UInt8))) (e : (Bool ⊕ Unit)) (p : Out × St) : Prop := match e with
  | .inl x => p.1 = .ret ∧ finF F12 [.d (.sl (List.map D.str l_)), .d (.int .i64 cut_)] p.2 = some (.d (.bool x), [.d (.sl (List.map D.str l_)), .d (.int .i64 cut_)])
  | .inr x => p.1 = .exit 2 ∧ ∃ g : (Nat × Bool), Canon [] [1, 5, 6] [[15]] p.2 (hansomlaw20_NamesList_h54 b_15 cut1 b6 g.1 g.2)
theorem hansomlaw20_NamesList_l8_ok (l_ : (List (List UInt8))) (cut_ : Int) (b_15 : (List (List UInt8))) (l0 : (List (List UInt8))) (cut1 : Int) (b6 : (List UInt8)) (i7 : Int) (v_15 : Nat) (r : (Lp ((List (List UInt8)) × (List UInt8) × Int) ((List (List UInt8)) × (List UInt8)))) (h : hansomlaw20_NamesList_l8 b_15 l0 cut1 b6 i7 = some r) : Runs L F12l8 (hansomlaw20_NamesList_h8 b_15 l0 cut1 b6 i7 v_15) (LQ [] [0, 1, 5, 6, 7] [[15]] (fun (x : ((List (List UInt8)) × (List UInt8) × Int)) (g : Nat) => hansomlaw20_NamesList_h8 x.1 l0 cut1 x.2.1 x.2.2 g) (hansomlaw20_NamesList_P8 l_ cut_ l0 cut1) r) := by
  unfold hansomlaw20_NamesList_l8 at h
  refine Runs.seq ?_
  refine Runs.seq ?_
  refine Runs.ops ?_
  refine RunAt.chunk 2 [⟨.d (.int .i64 i7), []⟩, ⟨.d (.sl (List.map D.str l0)), []⟩] (by kernel_rfl) ?_
  refine RunAt.cut (some 18) .lenL [] none [.d (.sl (List.map D.str l0))] (.d (.int .i64 (l0.length : Int))) [] (by kernel_rfl) (by kernel_rfl) (by kernel_rfl) (cut_len _) ?_
  refine RunAt.chunk 2 [⟨.d (.bool (decide (i7 < (l0.length : Int)))), []⟩, ⟨.d (.bool (decide (i7 < (l0.length : Int)))), []⟩] (by kernel_rfl) ?_
  cases hb_1 : ((decide (i7 < (l0.length : Int))) : Bool) with
  | true =>
    replace h := ite_t hb_1 h
    refine RunAt.chunk 3 [⟨.d (.int .i64 i7), []⟩, ⟨.d (.bool (decide (i7 < 12))), []⟩, ⟨.d (.bool (decide (i7 < 12))), []⟩] (by kernel_rfl) ?_
    refine RunAt.done (by kernel_rfl) ?_
    refine kS_nrm ?_
    cases hb_2 : ((decide (i7 < 12)) : Bool) with
    | true =>
      replace h := ite_t hb_2 h
      refine Runs.cond_t (by kernel_rfl) ?_
      refine Runs.skip ?_
      refine kS_nrm ?_
      refine Runs.seq ?_
      refine Runs.block ?_
      refine Runs.seq ?_
      refine Runs.ops ?_
      refine RunAt.chunk 3 [⟨.ref [15] v_15 0 (List.map D.str b_15).length 1, []⟩, ⟨.d (.sl (List.map D.str l0)), []⟩, ⟨.d (.int .i64 i7), []⟩] (by kernel_rfl) ?_
      obtain ⟨z_1, hz_1, h⟩ := bind_s h
      refine RunAt.cut (some 29) (.iaddrS 1) [] none [.d (.sl (List.map D.str l0)), .d (.int .i64 i7)] (.elt (.str z_1) 0) [] (by kernel_rfl) (by kernel_rfl) (by kernel_rfl) (cut_at hz_1 (fun _ => rfl)) ?_
      refine RunAt.chunk 3 [⟨.d (.str z_1), []⟩, ⟨.d (.sl (List.map D.str l0)), []⟩, ⟨.d (.int .i64 i7), []⟩] (by kernel_rfl) ?_
      obtain ⟨z_2, hz_2, h⟩ := bind_s h
      refine RunAt.cut (some 33) (.iaddrS 1) [] none [.d (.sl (List.map D.str l0)), .d (.int .i64 i7)] (.elt (.str z_2) 0) [] (by kernel_rfl) (by kernel_rfl) (by kernel_rfl) (cut_at hz_2 (fun _ => rfl)) ?_
      refine RunAt.chunk 1 [⟨.d (.str z_2), []⟩] (by kernel_rfl) ?_
      refine RunAt.cut (some 35) .lenS [] none [.d (.str z_2)] (.d (.int .i64 (z_2.length : Int))) [] (by kernel_rfl) (by kernel_rfl) (by kernel_rfl) (cut_lenS _) ?_
      refine RunAt.chunk 1 [⟨.d (.int .i64 (mnI (z_2.length : Int) 40)), []⟩] (by kernel_rfl) ?_
      obtain ⟨z_3, hz_3, h⟩ := bind_s h
      refine RunAt.cut (some 37) (.substr false true) [] none [.d (.str z_1), .d (.int .i64 (mnI (z_2.length : Int) 40))] (.d (.str z_3)) [] (by kernel_rfl) (by kernel_rfl) (by kernel_rfl) (cut_strFT hz_3) ?_
      refine RunAt.chunk 1 [⟨.ref [38] 0 0 (List.map D.str ([z_3] : List (List UInt8))).length 1, [([38], some (.arr (List.map D.str ([z_3] : List (List UInt8))) 0 false))]⟩] (by kernel_rfl) ?_
      obtain ⟨z_4, hz_4, h⟩ := bind_s h
      refine RunAt.cut (some 39) (.append 1 16 false) [] none [.ref [15] v_15 0 (List.map D.str b_15).length 1, .ref [38] 0 0 (List.map D.str ([z_3] : List (List UInt8))).length 1] (.ref [15] (v_15 + 1) 0 (List.map D.str z_4).length 1) [([38], some (.arr (List.map D.str ([z_3] : List (List UInt8))) 0 true)), ([15], some (.arr (List.map D.str z_4) (v_15 + 1) false))] (by kernel_rfl) (by kernel_rfl) (by kernel_rfl) (cut_appR (e := D.str) (l := b_15) (fz := false) (ws := [([38], some (.arr (List.map D.str ([z_3] : List (List UInt8))) 0 true))]) (ap_ref (e := D.str) (l := ([z_3] : List (List UInt8))) (fz := false) (by kernel_rfl) (by kernel_rfl) rfl) (fun _ => rfl) hz_4 (by kernel_rfl) (by kernel_rfl) rfl) ?_
      refine RunAt.chunk 1 [⟨.ref [15] (v_15 + 1) 0 (List.map D.str z_4).length 1, []⟩] (by kernel_rfl) ?_
      refine RunAt.done (by kernel_rfl) ?_
      refine kS_nrm ?_
      refine Runs.ops ?_
      refine RunAt.chunk 3 [⟨.d (.str b6), []⟩, ⟨.ref [15] (v_15 + 1) 0 (List.map D.str z_4).length 1, []⟩, ⟨.d (.int .i64 i7), []⟩] (by kernel_rfl) ?_
      obtain ⟨z_5, hz_5, h⟩ := bind_s h
      refine RunAt.cut (some 43) (.iaddrS 1) [] none [.ref [15] (v_15 + 1) 0 (List.map D.str z_4).length 1, .d (.int .i64 i7)] (.eref [15] (v_15 + 1) (0 + (i7).toNat) 0) [] (by kernel_rfl) (by kernel_rfl) (by kernel_rfl) (cut_atR (e := D.str) (l := z_4) hz_5 rfl) ?_
      refine RunAt.cut (some 44) (.load none) [] none [.eref [15] (v_15 + 1) (0 + (i7).toNat) 0] (.d (.str z_5)) [] (by kernel_rfl) (by kernel_rfl) (by kernel_rfl) (cut_loadR (e := D.str) (l := z_4) (fz := false) (y := z_5) (by kernel_rfl) hz_5 (by kernel_rfl) (by kernel_rfl)) ?_
      obtain ⟨r_1, hr_1, h⟩ := bind_s h
      have hc_1 := hansomref18_Name_L z_5 r_1 hr_1
      refine RunAt.cut (some 45) (.callf 37) [] none [.d (.str z_5)] (.d (.str r_1)) [] (by kernel_rfl) (by kernel_rfl) (by kernel_rfl) (cut_call (call_of (ws := []) (us := []) (by kernel_rfl) (by kernel_rfl) hc_1 (by kernel_rfl) (by kernel_rfl))) ?_
      obtain ⟨z_6, hz_6, h⟩ := bind_s h
      refine RunAt.cut (some 46) (.bin .add) [] none [.d (.str b6), .d (.str r_1)] (.d (.str z_6)) [] (by kernel_rfl) (by kernel_rfl) (by kernel_rfl) (cut_cat hz_6) ?_
      refine RunAt.chunk 1 [⟨.d (.str z_6), []⟩] (by kernel_rfl) ?_
      refine RunAt.done (by kernel_rfl) ?_
      refine kB_nrm ?_
      refine kS_nrm ?_
      refine Runs.ops ?_
      refine RunAt.chunk 3 [⟨.d (.int .i64 i7), []⟩, ⟨.d (.int .i64 (IntKind.wrap .i64 (i7 + 1))), []⟩, ⟨.d (.int .i64 (IntKind.wrap .i64 (i7 + 1))), []⟩] (by kernel_rfl) ?_
      refine RunAt.done (by kernel_rfl) ?_
      obtain rfl := Option.some.inj h
      exact ⟨rfl, (v_15 + 1), (Canon.nil (by kernel_rfl))⟩
    | false =>
      replace h := ite_f hb_2 h
      refine Runs.cond_f (by kernel_rfl) ?_
      refine Runs.exit ?_
      refine kS_exit ?_
      obtain rfl := Option.some.inj h
      exact ⟨nofun, rfl, v_15, (Canon.nil (by kernel_rfl))⟩
  | false =>
    replace h := ite_f hb_1 h
    refine RunAt.chunk 3 [⟨.tup [], []⟩, ⟨.tup [], []⟩, ⟨.d (.bool false), []⟩] (by kernel_rfl) ?_
    refine RunAt.done (by kernel_rfl) ?_
    refine kS_nrm ?_
    refine Runs.cond_f (by kernel_rfl) ?_
    refine Runs.exit ?_
    refine kS_exit ?_
    obtain rfl := Option.some.inj h
    exact ⟨nofun, rfl, v_15, (Canon.nil (by kernel_rfl))⟩
theorem hansomlaw20_NamesList_l37_ok (l_ : (List (List UInt8))) (cut_ : Int) (b_15 : (List (List UInt8))) (cut1 : Int) (b6 : (List UInt8)) (got9 : (List (List UInt8))) (i11 : Int) (v_15 : Nat) (f_15 : Bool) (r : (Lp Int (Bool ⊕ Unit))) (h : hansomlaw20_NamesList_l37 b_15 cut1 b6 got9 i11 = some r) : Runs L F12l37 (hansomlaw20_NamesList_h37 b_15 cut1 b6 got9 i11 v_15 f_15) (LQ [] [1, 5, 6, 9, 11] [[15]] (fun (x : Int) (g : (Nat × Bool)) => hansomlaw20_NamesList_h37 b_15 cut1 b6 got9 x g.1 g.2) (hansomlaw20_NamesList_P37 l_ cut_ b_15 cut1 b6 got9) r) := by
  unfold hansomlaw20_NamesList_l37 at h
  refine Runs.seq ?_
  refine Runs.seq ?_
  refine Runs.ops ?_
  refine RunAt.chunk 2 [⟨.d (.int .i64 i11), []⟩, ⟨.ref [15] v_15 0 (List.map D.str b_15).length 1, []⟩] (by kernel_rfl) ?_
  refine RunAt.cut (some 78) .lenL [] none [.ref [15] v_15 0 (List.map D.str b_15).length 1] (.d (.int .i64 (b_15.length : Int))) [] (by kernel_rfl) (by kernel_rfl) (by kernel_rfl) (cut_lenR (e := D.str) b_15 rfl) ?_
  refine RunAt.chunk 1 [⟨.d (.bool (decide (i11 < (b_15.length : Int)))), []⟩] (by kernel_rfl) ?_
  refine RunAt.done (by kernel_rfl) ?_
  refine kS_nrm ?_
  cases hb_5 : ((decide (i11 < (b_15.length : Int))) : Bool) with
  | true =>
    replace h := ite_t hb_5 h
    refine Runs.cond_t (by kernel_rfl) ?_
    refine Runs.skip ?_
    refine kS_nrm ?_
    refine Runs.seq ?_
    refine Runs.block ?_
    refine Runs.seq ?_
    refine Runs.ops ?_
    refine RunAt.chunk 2 [⟨.d (.sl (List.map D.str got9)), []⟩, ⟨.d (.int .i64 i11), []⟩] (by kernel_rfl) ?_
    obtain ⟨z_1, hz_1, h⟩ := bind_s h
    refine RunAt.cut (some 84) (.iaddrS 1) [] none [.d (.sl (List.map D.str got9)), .d (.int .i64 i11)] (.elt (.str z_1) 0) [] (by kernel_rfl) (by kernel_rfl) (by kernel_rfl) (cut_at hz_1 (fun _ => rfl)) ?_
    refine RunAt.chunk 3 [⟨.d (.str z_1), []⟩, ⟨.ref [15] v_15 0 (List.map D.str b_15).length 1, []⟩, ⟨.d (.int .i64 i11), []⟩] (by kernel_rfl) ?_
    obtain ⟨z_2, hz_2, h⟩ := bind_s h
    refine RunAt.cut (some 88) (.iaddrS 1) [] none [.ref [15] v_15 0 (List.map D.str b_15).length 1, .d (.int .i64 i11)] (.eref [15] v_15 (0 + (i11).toNat) 0) [] (by kernel_rfl) (by kernel_rfl) (by kernel_rfl) (cut_atR (e := D.str) (l := b_15) hz_2 rfl) ?_
    refine RunAt.cut (some 89) (.load none) [] none [.eref [15] v_15 (0 + (i11).toNat) 0] (.d (.str z_2)) [] (by kernel_rfl) (by kernel_rfl) (by kernel_rfl) (cut_loadR (e := D.str) (l := b_15) (fz := f_15) (y := z_2) (by kernel_rfl) hz_2 (by kernel_rfl) (by kernel_rfl)) ?_
    refine RunAt.chunk 1 [⟨.d (.bool (z_1 != z_2)), []⟩] (by kernel_rfl) ?_
    refine RunAt.done (by kernel_rfl) ?_
    refine kS_nrm ?_
    cases hb_6 : ((z_1 != z_2) : Bool) with
    | true =>
      replace h := ite_t hb_6 h
      refine Runs.cond_t (by kernel_rfl) ?_
      refine Runs.seq ?_
      refine Runs.ops ?_
      refine RunAt.chunk 1 [⟨.d (.bool false), []⟩] (by kernel_rfl) ?_
      refine RunAt.done (by kernel_rfl) ?_
      refine kS_nrm ?_
      refine Runs.ret ?_
      refine kB_ret ?_
      refine kS_ret ?_
      obtain rfl := Option.some.inj h
      exact ⟨nofun, rfl, (by kernel_rfl)⟩
    | false =>
      replace h := ite_f hb_6 h
      refine Runs.cond_f (by kernel_rfl) ?_
      refine Runs.skip ?_
      refine kB_nrm ?_
      refine kS_nrm ?_
      refine Runs.ops ?_
      refine RunAt.chunk 3 [⟨.d (.int .i64 i11), []⟩, ⟨.d (.int .i64 (IntKind.wrap .i64 (i11 + 1))), []⟩, ⟨.d (.int .i64 (IntKind.wrap .i64 (i11 + 1))), []⟩] (by kernel_rfl) ?_
      refine RunAt.done (by kernel_rfl) ?_
      obtain rfl := Option.some.inj h
      exact ⟨rfl, (v_15, f_15), (Canon.nil (by kernel_rfl))⟩
  | false =>
    replace h := ite_f hb_5 h
    refine Runs.cond_f (by kernel_rfl) ?_
    refine Runs.exit ?_
    refine kS_exit ?_
    obtain rfl := Option.some.inj h
    exact ⟨nofun, rfl, (v_15, f_15), (Canon.nil (by kernel_rfl))⟩
theorem hansomlaw20_NamesList_ok (l_ : (List (List UInt8))) (cut_ : Int) (r : Bool) (h : hansomlaw20_NamesList l_ cut_ = some r) : Runs L F12.body ⟨tmOf [.d (.sl (List.map D.str l_)), .d (.int .i64 cut_)] 0, updW (fun _ => none) []⟩ (hansomlaw20_NamesList_Q l_ cut_ r) := by
  unfold hansomlaw20_NamesList at h
  refine Runs.seq ?_
  refine Runs.ops ?_
  refine RunAt.chunk 1 [⟨.d (.bool false), []⟩] (by kernel_rfl) ?_
  refine RunAt.done (by kernel_rfl) ?_
  refine kS_nrm ?_
  refine Runs.seq ?_
  refine Runs.ops ?_
  refine RunAt.chunk 3 [⟨.ref [15] 0 0 (List.map D.str ([] : List (List UInt8))).length 1, [([15], some (.arr (List.map D.str ([] : List (List UInt8))) 0 false))]⟩, ⟨.ref [15] 0 0 (List.map D.str ([] : List (List UInt8))).length 1, []⟩, ⟨.d (.str ([] : List UInt8)), []⟩] (by kernel_rfl) ?_
  refine RunAt.done (by kernel_rfl) ?_
  refine kS_nrm ?_
  refine Runs.seq ?_
  refine Runs.seq ?_
  refine Runs.ops ?_
  refine RunAt.chunk 1 [⟨.d (.int .i64 0), []⟩] (by kernel_rfl) ?_
  refine RunAt.done (by kernel_rfl) ?_
  refine kS_nrm ?_
  refine Runs.block ?_
  obtain ⟨e_1, he_1, h⟩ := bind_s h
  refine Runs.loop (fun x : ((List (List UInt8)) × (List UInt8) × Int) => hansomlaw20_NamesList_l8 x.1 l_ cut_ x.2.1 x.2.2) (fun (x : ((List (List UInt8)) × (List UInt8) × Int)) (g : Nat) => hansomlaw20_NamesList_h8 x.1 l_ cut_ x.2.1 x.2.2 g) (hansomlaw20_NamesList_P8 l_ cut_ l_ cut_) (fun x g r hr => hansomlaw20_NamesList_l8_ok l_ cut_ x.1 l_ cut_ x.2.1 x.2.2 g r hr) 0 he_1 (Canon.nil (by kernel_rfl)) ?_
  rintro ⟨o, s⟩ hp
  obtain ⟨ho, g_1, hk_1⟩ := hp
  have ho' : o = .exit 0 := ho
  subst ho'
  refine kB_hit ?_
  refine kS_nrm ?_
  refine Runs.canon _ hk_1 ?_
  refine Runs.seq ?_
  refine Runs.ops ?_
  refine RunAt.chunk 1 [⟨.ref [15] g_1 0 (List.map D.str e_1.1).length 1, []⟩] (by kernel_rfl) ?_
  obtain ⟨r_1, hr_1, h⟩ := bind_s h
  have hc_1 := names_List_L e_1.1 r_1 hr_1
  refine RunAt.cut (some 48) (.callf 47) [] none [.ref [15] g_1 0 (List.map D.str e_1.1).length 1] (.d (Record.d r_1)) [([15], some (.arr (List.map D.str e_1.1) g_1 true))] (by kernel_rfl) (by kernel_rfl) (by kernel_rfl) (cut_call (call_of (ws := [([15], some (.arr (List.map D.str e_1.1) g_1 true))]) (us := [([15], some (.arr (List.map D.str e_1.1) g_1 true))]) (by kernel_rfl) (gives_cons (ws := [([15], some (.arr (List.map D.str e_1.1) g_1 true))]) (give_ref (e := D.str) (l := e_1.1) (fz := false) (by kernel_rfl) (by kernel_rfl) rfl) gives_nil) hc_1 (by kernel_rfl) (by kernel_rfl))) ?_
  refine RunAt.chunk 2 [⟨.ptr [8] 0 0, [([8], some (.cells [.d (.int .u8 0), .nils] 0))]⟩, ⟨.tup [], [([8], some (.cells [.d (.int .u8 r_1.Kind), .d (.sl (List.map (D.int .u8) r_1.Body))] 0))]⟩] (by kernel_rfl) ?_
  refine RunAt.done (by kernel_rfl) ?_
  refine kS_nrm ?_
  refine Runs.seq ?_
  refine Runs.ops ?_
  refine RunAt.chunk 1 [⟨.d (.str e_1.2), []⟩] (by kernel_rfl) ?_
  refine RunAt.cut (some 51) .strBytes [] none [.d (.str e_1.2)] (.ref [51] 0 0 (List.map (D.int .u8) (s2b e_1.2)).length 1) [([51], some (.arr (List.map (D.int .u8) (s2b e_1.2)) 0 false))] (by kernel_rfl) (by kernel_rfl) (by kernel_rfl) (cut_sb _ (by kernel_rfl)) ?_
  obtain ⟨r_2, hr_2, h⟩ := bind_s h
  have hc_2 := names_Names_L (s2b e_1.2) r_2 hr_2
  refine RunAt.cut (some 52) (.callf 48) [] none [.ref [51] 0 0 (List.map (D.int .u8) (s2b e_1.2)).length 1] (.tup [.d (.sl (List.map D.str r_2.1)), .d (.int .i64 r_2.2)]) [([51], some (.arr (List.map (D.int .u8) (s2b e_1.2)) 0 true))] (by kernel_rfl) (by kernel_rfl) (by kernel_rfl) (cut_call (call_of (ws := [([51], some (.arr (List.map (D.int .u8) (s2b e_1.2)) 0 true))]) (us := [([51], some (.arr (List.map (D.int .u8) (s2b e_1.2)) 0 true))]) (by kernel_rfl) (gives_cons (ws := [([51], some (.arr (List.map (D.int .u8) (s2b e_1.2)) 0 true))]) (give_ref (e := (D.int .u8)) (l := (s2b e_1.2)) (fz := false) (by kernel_rfl) (by kernel_rfl) rfl) gives_nil) hc_2 (by kernel_rfl) (by kernel_rfl))) ?_
  refine RunAt.chunk 5 [⟨.tup [.d (.sl (List.map D.str r_2.1)), .d (.int .i64 r_2.2)], []⟩, ⟨.d (.sl (List.map D.str r_2.1)), []⟩, ⟨.d (.int .i64 r_2.2), []⟩, ⟨.d (.sl (List.map D.str r_2.1)), []⟩, ⟨.d (.int .i64 r_2.2), []⟩] (by kernel_rfl) ?_
  refine RunAt.done (by kernel_rfl) ?_
  refine kS_nrm ?_
  refine Runs.seq ?_
  refine Runs.seq ?_
  refine Runs.ops ?_
  refine RunAt.chunk 2 [⟨.ptr [8] 0 1, []⟩, ⟨.d (.sl (List.map (D.int .u8) r_1.Body)), []⟩] (by kernel_rfl) ?_
  refine RunAt.cut (some 57) .bytesStr [] none [.d (.sl (List.map (D.int .u8) r_1.Body))] (.d (.str (b2s r_1.Body))) [] (by kernel_rfl) (by kernel_rfl) (by kernel_rfl) (cut_bs _) ?_
  refine RunAt.chunk 3 [⟨.d (.str e_1.2), []⟩, ⟨.d (.bool ((b2s r_1.Body) != e_1.2)), []⟩, ⟨.d (.bool ((b2s r_1.Body) != e_1.2)), []⟩] (by kernel_rfl) ?_
  cases hb_1 : (((b2s r_1.Body) != e_1.2) : Bool) with
  | true =>
    replace h := ite_t hb_1 h
    refine RunAt.chunk 15 [⟨.tup [], []⟩, ⟨.tup [], []⟩, ⟨.tup [], []⟩, ⟨.d (.bool true), []⟩, ⟨.d (.bool true), []⟩, ⟨.tup [], []⟩, ⟨.tup [], []⟩, ⟨.d (.bool true), []⟩, ⟨.d (.bool true), []⟩, ⟨.tup [], []⟩, ⟨.tup [], []⟩, ⟨.tup [], []⟩, ⟨.tup [], []⟩, ⟨.tup [], []⟩, ⟨.d (.bool true), []⟩] (by kernel_rfl) ?_
    refine RunAt.done (by kernel_rfl) ?_
    refine kS_nrm ?_
    refine Runs.cond_t (by kernel_rfl) ?_
    refine Runs.seq ?_
    refine Runs.ops ?_
    refine RunAt.chunk 1 [⟨.d (.bool false), []⟩] (by kernel_rfl) ?_
    refine RunAt.done (by kernel_rfl) ?_
    refine kS_nrm ?_
    refine Runs.ret ?_
    refine kS_ret ?_
    obtain rfl := Option.some.inj h
    exact ⟨Out.ret_ne, (by kernel_rfl)⟩
  | false =>
    replace h := ite_f hb_1 h
    refine RunAt.chunk 5 [⟨.ptr [8] 0 0, []⟩, ⟨.d (.int .u8 r_1.Kind), []⟩, ⟨.d (.bool (r_1.Kind != 150)), []⟩, ⟨.d (.bool (r_1.Kind != 150)), []⟩, ⟨.d (.bool (r_1.Kind != 150)), []⟩] (by kernel_rfl) ?_
    cases hb_2 : ((r_1.Kind != 150) : Bool) with
    | true =>
      replace h := ite_t hb_2 h
      refine RunAt.chunk 10 [⟨.tup [], []⟩, ⟨.tup [], []⟩, ⟨.d (.bool true), []⟩, ⟨.d (.bool true), []⟩, ⟨.tup [], []⟩, ⟨.tup [], []⟩, ⟨.tup [], []⟩, ⟨.tup [], []⟩, ⟨.tup [], []⟩, ⟨.d (.bool true), []⟩] (by kernel_rfl) ?_
      refine RunAt.done (by kernel_rfl) ?_
      refine kS_nrm ?_
      refine Runs.cond_t (by kernel_rfl) ?_
      refine Runs.seq ?_
      refine Runs.ops ?_
      refine RunAt.chunk 1 [⟨.d (.bool false), []⟩] (by kernel_rfl) ?_
      refine RunAt.done (by kernel_rfl) ?_
      refine kS_nrm ?_
      refine Runs.ret ?_
      refine kS_ret ?_
      obtain rfl := Option.some.inj h
      exact ⟨Out.ret_ne, (by kernel_rfl)⟩
    | false =>
      replace h := ite_f hb_2 h
      refine RunAt.chunk 4 [⟨.d (.int .i64 r_2.2), []⟩, ⟨.d (.bool (r_2.2 != 0)), []⟩, ⟨.d (.bool (r_2.2 != 0)), []⟩, ⟨.d (.bool (r_2.2 != 0)), []⟩] (by kernel_rfl) ?_
      cases hb_3 : ((r_2.2 != 0) : Bool) with
      | true =>
        replace h := ite_t hb_3 h
        refine RunAt.chunk 6 [⟨.tup [], []⟩, ⟨.tup [], []⟩, ⟨.tup [], []⟩, ⟨.tup [], []⟩, ⟨.tup [], []⟩, ⟨.d (.bool true), []⟩] (by kernel_rfl) ?_
        refine RunAt.done (by kernel_rfl) ?_
        refine kS_nrm ?_
        refine Runs.cond_t (by kernel_rfl) ?_
        refine Runs.seq ?_
        refine Runs.ops ?_
        refine RunAt.chunk 1 [⟨.d (.bool false), []⟩] (by kernel_rfl) ?_
        refine RunAt.done (by kernel_rfl) ?_
        refine kS_nrm ?_
        refine Runs.ret ?_
        refine kS_ret ?_
        obtain rfl := Option.some.inj h
        exact ⟨Out.ret_ne, (by kernel_rfl)⟩
      | false =>
        replace h := ite_f hb_3 h
        refine RunAt.chunk 1 [⟨.d (.sl (List.map D.str r_2.1)), []⟩] (by kernel_rfl) ?_
        refine RunAt.cut (some 71) .lenL [] none [.d (.sl (List.map D.str r_2.1))] (.d (.int .i64 (r_2.1.length : Int))) [] (by kernel_rfl) (by kernel_rfl) (by kernel_rfl) (cut_len _) ?_
        refine RunAt.chunk 1 [⟨.ref [15] g_1 0 (List.map D.str e_1.1).length 1, []⟩] (by kernel_rfl) ?_
        refine RunAt.cut (some 73) .lenL [] none [.ref [15] g_1 0 (List.map D.str e_1.1).length 1] (.d (.int .i64 (e_1.1.length : Int))) [] (by kernel_rfl) (by kernel_rfl) (by kernel_rfl) (cut_lenR (e := D.str) e_1.1 rfl) ?_
        refine RunAt.chunk 2 [⟨.d (.bool ((r_2.1.length : Int) != (e_1.1.length : Int))), []⟩, ⟨.d (.bool ((r_2.1.length : Int) != (e_1.1.length : Int))), []⟩] (by kernel_rfl) ?_
        refine RunAt.done (by kernel_rfl) ?_
        refine kS_nrm ?_
        cases hb_4 : (((r_2.1.length : Int) != (e_1.1.length : Int)) : Bool) with
        | true =>
          replace h := ite_t hb_4 h
          refine Runs.cond_t (by kernel_rfl) ?_
          refine Runs.seq ?_
          refine Runs.ops ?_
          refine RunAt.chunk 1 [⟨.d (.bool false), []⟩] (by kernel_rfl) ?_
          refine RunAt.done (by kernel_rfl) ?_
          refine kS_nrm ?_
          refine Runs.ret ?_
          refine kS_ret ?_
          obtain rfl := Option.some.inj h
          exact ⟨Out.ret_ne, (by kernel_rfl)⟩
        | false =>
          replace h := ite_f hb_4 h
          refine Runs.cond_f (by kernel_rfl) ?_
          refine Runs.skip ?_
          refine kS_nrm ?_
          refine Runs.seq ?_
          refine Runs.seq ?_
          refine Runs.ops ?_
          refine RunAt.chunk 1 [⟨.d (.int .i64 0), []⟩] (by kernel_rfl) ?_
          refine RunAt.done (by kernel_rfl) ?_
          refine kS_nrm ?_
          refine Runs.block ?_
          obtain ⟨e_2, he_2, h⟩ := bind_s h
          refine Runs.loop (fun x : Int => hansomlaw20_NamesList_l37 e_1.1 cut_ e_1.2 r_2.1 x) (fun (x : Int) (g : (Nat × Bool)) => hansomlaw20_NamesList_h37 e_1.1 cut_ e_1.2 r_2.1 x g.1 g.2) (hansomlaw20_NamesList_P37 l_ cut_ e_1.1 cut_ e_1.2 r_2.1) (fun x g r hr => hansomlaw20_NamesList_l37_ok l_ cut_ e_1.1 cut_ e_1.2 r_2.1 x g.1 g.2 r hr) (g_1, true) he_2 (Canon.nil (by kernel_rfl)) ?_
          rintro ⟨o, s⟩ hp
          cases e_2 with
          | inl e_3 =>
            obtain ⟨ho, hf⟩ := hp
            have ho' : o = .ret := ho
            subst ho'
            refine kB_ret ?_
            refine kS_ret ?_
            obtain rfl := Option.some.inj h
            exact ⟨Out.ret_ne, hf⟩
          | inr e_4 =>
            obtain ⟨ho, g_2, hk_2⟩ := hp
            have ho' : o = .exit 2 := ho
            subst ho'
            refine kB_hit ?_
            refine kS_nrm ?_
            refine Runs.canon _ hk_2 ?_
            refine Runs.seq ?_
            refine Runs.ops ?_
            refine RunAt.chunk 3 [⟨.d (.int .i64 cut_), []⟩, ⟨.d (.int .i64 (bitsOp .and .i64 cut_ 65535)), []⟩, ⟨.d (.str e_1.2), []⟩] (by kernel_rfl) ?_
            refine RunAt.cut (some 94) .lenS [] none [.d (.str e_1.2)] (.d (.int .i64 (e_1.2.length : Int))) [] (by kernel_rfl) (by kernel_rfl) (by kernel_rfl) (cut_lenS _) ?_
            refine RunAt.chunk 1 [⟨.d (.int .i64 (IntKind.wrap .i64 ((e_1.2.length : Int) + 1))), []⟩] (by kernel_rfl) ?_
            obtain ⟨z_1, hz_1, h⟩ := bind_s h
            refine RunAt.cut (some 96) (.bin .rem) [] none [.d (.int .i64 (bitsOp .and .i64 cut_ 65535)), .d (.int .i64 (IntKind.wrap .i64 ((e_1.2.length : Int) + 1)))] (.d (.int .i64 z_1)) [] (by kernel_rfl) (by kernel_rfl) (by kernel_rfl) (cut_rem hz_1) ?_
            refine RunAt.chunk 1 [⟨.d (.int .i64 z_1), []⟩] (by kernel_rfl) ?_
            refine RunAt.done (by kernel_rfl) ?_
            refine kS_nrm ?_
            refine Runs.seq ?_
            refine Runs.ops ?_
            refine RunAt.chunk 2 [⟨.d (.str e_1.2), []⟩, ⟨.d (.int .i64 z_1), []⟩] (by kernel_rfl) ?_
            obtain ⟨z_2, hz_2, h⟩ := bind_s h
            refine RunAt.cut (some 100) (.substr false true) [] none [.d (.str e_1.2), .d (.int .i64 z_1)] (.d (.str z_2)) [] (by kernel_rfl) (by kernel_rfl) (by kernel_rfl) (cut_strFT hz_2) ?_
            refine RunAt.cut (some 101) .strBytes [] none [.d (.str z_2)] (.ref [101] 0 0 (List.map (D.int .u8) (s2b z_2)).length 1) [([101], some (.arr (List.map (D.int .u8) (s2b z_2)) 0 false))] (by kernel_rfl) (by kernel_rfl) (by kernel_rfl) (cut_sb _ (by kernel_rfl)) ?_
            obtain ⟨r_3, hr_3, h⟩ := bind_s h
            have hc_3 := names_Names_L (s2b z_2) r_3 hr_3
            refine RunAt.cut (some 102) (.callf 48) [] none [.ref [101] 0 0 (List.map (D.int .u8) (s2b z_2)).length 1] (.tup [.d (.sl (List.map D.str r_3.1)), .d (.int .i64 r_3.2)]) [([101], some (.arr (List.map (D.int .u8) (s2b z_2)) 0 true))] (by kernel_rfl) (by kernel_rfl) (by kernel_rfl) (cut_call (call_of (ws := [([101], some (.arr (List.map (D.int .u8) (s2b z_2)) 0 true))]) (us := [([101], some (.arr (List.map (D.int .u8) (s2b z_2)) 0 true))]) (by kernel_rfl) (gives_cons (ws := [([101], some (.arr (List.map (D.int .u8) (s2b z_2)) 0 true))]) (give_ref (e := (D.int .u8)) (l := (s2b z_2)) (fz := false) (by kernel_rfl) (by kernel_rfl) rfl) gives_nil) hc_3 (by kernel_rfl) (by kernel_rfl))) ?_
            refine RunAt.chunk 5 [⟨.tup [.d (.sl (List.map D.str r_3.1)), .d (.int .i64 r_3.2)], []⟩, ⟨.d (.sl (List.map D.str r_3.1)), []⟩, ⟨.d (.int .i64 r_3.2), []⟩, ⟨.d (.sl (List.map D.str r_3.1)), []⟩, ⟨.d (.int .i64 r_3.2), []⟩] (by kernel_rfl) ?_
            refine RunAt.done (by kernel_rfl) ?_
            refine kS_nrm ?_
            refine Runs.seq ?_
            refine Runs.ops ?_
            obtain ⟨r_4, hr_4, h⟩ := bind_s h
            have hc_4 := hansomlaw20_awake_L r_4 hr_4
            refine RunAt.cut (some 105) (.callf 36) [] none [] (.d (.bool r_4)) [] (by kernel_rfl) (by kernel_rfl) (by kernel_rfl) (cut_call (call_of (ws := []) (us := []) (by kernel_rfl) (by kernel_rfl) hc_4 (by kernel_rfl) (by kernel_rfl))) ?_
            refine RunAt.chunk 1 [⟨.d (.bool r_4), []⟩] (by kernel_rfl) ?_
            cases hb_5 : (r_4 : Bool) with
            | true =>
              replace h := ite_t hb_5 h
              refine RunAt.chunk 3 [⟨.d (.int .i64 r_3.2), []⟩, ⟨.d (.bool (r_3.2 == 0)), []⟩, ⟨.d (.bool (r_3.2 == 0)), []⟩] (by kernel_rfl) ?_
              cases hb_6 : ((r_3.2 == 0) : Bool) with
              | true =>
                replace h := ite_t hb_6 h
                refine RunAt.chunk 11 [⟨.tup [], []⟩, ⟨.tup [], []⟩, ⟨.tup [], []⟩, ⟨.tup [], []⟩, ⟨.tup [], []⟩, ⟨.tup [], []⟩, ⟨.tup [], []⟩, ⟨.d (.bool true), []⟩, ⟨.d (.bool true), []⟩, ⟨.d (.bool true), []⟩, ⟨.d (.sl (List.map D.str r_3.1)), []⟩] (by kernel_rfl) ?_
                refine RunAt.cut (some 121) .lenL [] none [.d (.sl (List.map D.str r_3.1))] (.d (.int .i64 (r_3.1.length : Int))) [] (by kernel_rfl) (by kernel_rfl) (by kernel_rfl) (cut_len _) ?_
                refine RunAt.chunk 1 [⟨.ref [15] g_2.1 0 (List.map D.str e_1.1).length 1, []⟩] (by kernel_rfl) ?_
                refine RunAt.cut (some 123) .lenL [] none [.ref [15] g_2.1 0 (List.map D.str e_1.1).length 1] (.d (.int .i64 (e_1.1.length : Int))) [] (by kernel_rfl) (by kernel_rfl) (by kernel_rfl) (cut_lenR (e := D.str) e_1.1 rfl) ?_
                refine RunAt.chunk 3 [⟨.d (.bool (decide ((r_3.1.length : Int) ≤ (e_1.1.length : Int)))), []⟩, ⟨.d (.bool (decide ((r_3.1.length : Int) ≤ (e_1.1.length : Int)))), []⟩, ⟨.d (.bool (decide ((r_3.1.length : Int) ≤ (e_1.1.length : Int)))), []⟩] (by kernel_rfl) ?_
                refine RunAt.done (by kernel_rfl) ?_
                refine kS_nrm ?_
                refine Runs.ret ?_
                obtain rfl := Option.some.inj h
                exact ⟨Out.ret_ne, (by kernel_rfl)⟩
              | false =>
                replace h := ite_f hb_6 h
                refine RunAt.chunk 3 [⟨.d (.int .i64 r_3.2), []⟩, ⟨.d (.bool (r_3.2 == 2)), []⟩, ⟨.d (.bool (r_3.2 == 2)), []⟩] (by kernel_rfl) ?_
                cases hb_7 : ((r_3.2 == 2) : Bool) with
                | true =>
                  replace h := ite_t hb_7 h
                  refine RunAt.chunk 1 [⟨.d (.sl (List.map D.str r_3.1)), []⟩] (by kernel_rfl) ?_
                  refine RunAt.cut (some 114) .lenL [] none [.d (.sl (List.map D.str r_3.1))] (.d (.int .i64 (r_3.1.length : Int))) [] (by kernel_rfl) (by kernel_rfl) (by kernel_rfl) (cut_len _) ?_
                  refine RunAt.chunk 5 [⟨.d (.bool ((r_3.1.length : Int) == 0)), []⟩, ⟨.d (.bool ((r_3.1.length : Int) == 0)), []⟩, ⟨.d (.bool ((r_3.1.length : Int) == 0)), []⟩, ⟨.d (.bool ((r_3.1.length : Int) == 0)), []⟩, ⟨.d (.bool ((r_3.1.length : Int) == 0)), []⟩] (by kernel_rfl) ?_
                  cases hb_8 : (((r_3.1.length : Int) == 0) : Bool) with
                  | true =>
                    replace h := ite_t hb_8 h
                    refine RunAt.chunk 1 [⟨.d (.sl (List.map D.str r_3.1)), []⟩] (by kernel_rfl) ?_
                    refine RunAt.cut (some 121) .lenL [] none [.d (.sl (List.map D.str r_3.1))] (.d (.int .i64 (r_3.1.length : Int))) [] (by kernel_rfl) (by kernel_rfl) (by kernel_rfl) (cut_len _) ?_
                    refine RunAt.chunk 1 [⟨.ref [15] g_2.1 0 (List.map D.str e_1.1).length 1, []⟩] (by kernel_rfl) ?_
                    refine RunAt.cut (some 123) .lenL [] none [.ref [15] g_2.1 0 (List.map D.str e_1.1).length 1] (.d (.int .i64 (e_1.1.length : Int))) [] (by kernel_rfl) (by kernel_rfl) (by kernel_rfl) (cut_lenR (e := D.str) e_1.1 rfl) ?_
                    refine RunAt.chunk 3 [⟨.d (.bool (decide ((r_3.1.length : Int) ≤ (e_1.1.length : Int)))), []⟩, ⟨.d (.bool (decide ((r_3.1.length : Int) ≤ (e_1.1.length : Int)))), []⟩, ⟨.d (.bool (decide ((r_3.1.length : Int) ≤ (e_1.1.length : Int)))), []⟩] (by kernel_rfl) ?_
                    refine RunAt.done (by kernel_rfl) ?_
                    refine kS_nrm ?_
                    refine Runs.ret ?_
                    obtain rfl := Option.some.inj h
                    exact ⟨Out.ret_ne, (by kernel_rfl)⟩
                  | false =>
                    replace h := ite_f hb_8 h
                    refine RunAt.chunk 7 [⟨.tup [], []⟩, ⟨.tup [], []⟩, ⟨.tup [], []⟩, ⟨.tup [], []⟩, ⟨.tup [], []⟩, ⟨.d (.bool false), []⟩, ⟨.d (.bool false), []⟩] (by kernel_rfl) ?_
                    refine RunAt.done (by kernel_rfl) ?_
                    refine kS_nrm ?_
                    refine Runs.ret ?_
                    obtain rfl := Option.some.inj h
                    exact ⟨Out.ret_ne, (by kernel_rfl)⟩
                | false =>
                  replace h := ite_f hb_7 h
                  refine RunAt.chunk 14 [⟨.tup [], []⟩, ⟨.tup [], []⟩, ⟨.tup [], []⟩, ⟨.d (.bool false), []⟩, ⟨.d (.bool false), []⟩, ⟨.d (.bool false), []⟩, ⟨.d (.bool false), []⟩, ⟨.tup [], []⟩, ⟨.tup [], []⟩, ⟨.tup [], []⟩, ⟨.tup [], []⟩, ⟨.tup [], []⟩, ⟨.d (.bool false), []⟩, ⟨.d (.bool false), []⟩] (by kernel_rfl) ?_
                  refine RunAt.done (by kernel_rfl) ?_
                  refine kS_nrm ?_
                  refine Runs.ret ?_
                  obtain rfl := Option.some.inj h
                  exact ⟨Out.ret_ne, (by kernel_rfl)⟩
            | false =>
              replace h := ite_f hb_5 h
              refine RunAt.chunk 20 [⟨.tup [], []⟩, ⟨.tup [], []⟩, ⟨.tup [], []⟩, ⟨.tup [], []⟩, ⟨.tup [], []⟩, ⟨.tup [], []⟩, ⟨.tup [], []⟩, ⟨.tup [], []⟩, ⟨.tup [], []⟩, ⟨.tup [], []⟩, ⟨.tup [], []⟩, ⟨.d (.bool false), []⟩, ⟨.d (.bool false), []⟩, ⟨.tup [], []⟩, ⟨.tup [], []⟩, ⟨.tup [], []⟩, ⟨.tup [], []⟩, ⟨.tup [], []⟩, ⟨.d (.bool false), []⟩, ⟨.d (.bool false), []⟩] (by kernel_rfl) ?_
              refine RunAt.done (by kernel_rfl) ?_
              refine kS_nrm ?_
              refine Runs.ret ?_
              obtain rfl := Option.some.inj h
              exact ⟨Out.ret_ne, (by kernel_rfl)⟩
theorem hansomlaw20_NamesList_L (l_ : (List (List UInt8))) (cut_ : Int) (r : Bool) (h : hansomlaw20_NamesList l_ cut_ = some r) : L 12 [.d (.sl (List.map D.str l_)), .d (.int .i64 cut_)] = some (.d (.bool r), [.d (.sl (List.map D.str l_)), .d (.int .i64 cut_)]) := by
  obtain ⟨p, ⟨hne, hf⟩, hr⟩ := hansomlaw20_NamesList_ok l_ cut_ r h
  obtain ⟨k, hk⟩ := run_of (F := F12) (args := [.d (.sl (List.map D.str l_)), .d (.int .i64 cut_)]) (ap := [.d (.sl (List.map D.str l_)), .d (.int .i64 cut_)]) (bx0 := updW (fun _ => none) []) rfl rfl (by kernel_rfl) ⟨p, ⟨hne, hf⟩, hr⟩
  exact lim_run (k := k) rfl hk
end Go.Es.Nam
