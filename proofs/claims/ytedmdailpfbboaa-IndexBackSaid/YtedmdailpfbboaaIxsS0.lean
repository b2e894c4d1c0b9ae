/- The interpreter answers as plain Lean does: part 1. No condition. -/
import Derived.Test.YtedmdailpfbboaaIxsF
import Derived.Test.YtedmdailpfbboaaIxsP
import Derived.KernelRfl
set_option linter.unusedVariables false
set_option linter.unusedSimpArgs false
set_option maxRecDepth 100000
set_option maxHeartbeats 4000000
namespace Go.Es.Ixs
def index_From_Q (b_ : (List Int)) (r : Source) (p : Out × St) : Prop := (∀ i, p.1 ≠ .exit i) ∧ finF F25 [.d (.sl (List.map (D.int .u8) b_))] p.2 = some (.ptr [.d (.sl (List.map (D.int .u8) r.b)), .d (.int .i64 r.e)], [.d (.sl (List.map (D.int .u8) b_))])
theorem index_From_ok (b_ : (List Int)) (r : Source) (h : index_From b_ = some r) : Runs L F25.body ⟨tmOf [.d (.sl (List.map (D.int .u8) b_))] 0, updW (fun _ => none) []⟩ (index_From_Q b_ r) := by
  unfold index_From at h
  refine Runs.seq ?_
  refine Runs.ops ?_
  refine RunAt.chunk 1 [⟨.nilp, []⟩] (by kernel_rfl) ?_
  refine RunAt.done (by kernel_rfl) ?_
  refine kS_nrm ?_
  refine Runs.seq ?_
  refine Runs.ops ?_
  refine RunAt.chunk 1 [⟨.d (.sl (List.map (D.int .u8) b_)), []⟩] (by kernel_rfl) ?_
  obtain ⟨z_1, hz_1, h⟩ := bind_s h
  refine RunAt.cut (some 4) (.append 1 1 false) [] none [.nils, .d (.sl (List.map (D.int .u8) b_))] (.ref [4] 0 0 (List.map (D.int .u8) z_1).length 1) [([4], some (.arr (List.map (D.int .u8) z_1) 0 false))] (by kernel_rfl) (by kernel_rfl) (by kernel_rfl) (cut_appN (e := (D.int .u8)) (ws := []) (ap_data _) (fun _ => rfl) hz_1 (by kernel_rfl)) ?_
  refine RunAt.chunk 3 [⟨.mix [.ref [4] 0 0 (List.map (D.int .u8) z_1).length 1, .d (.int .i64 0)], []⟩, ⟨.ptr [6] 0 0, [([6], some (.cells [.ref [4] 0 0 (List.map (D.int .u8) z_1).length 1, .d (.int .i64 0)] 0))]⟩, ⟨.ptr [6] 0 0, []⟩] (by kernel_rfl) ?_
  refine RunAt.done (by kernel_rfl) ?_
  refine kS_nrm ?_
  refine Runs.seq ?_
  refine Runs.gcons (frzB_ref (e := (D.int .u8)) (l := z_1) (id := [6]) (id' := [4]) (v := 0) (n := 1) (fz := false) (ver := 0) (cs := [.ref [4] 0 0 (List.map (D.int .u8) z_1).length 1, .d (.int .i64 0)]) (cs' := [.d (.sl (List.map (D.int .u8) z_1)), .d (.int .i64 0)]) (by kernel_rfl) (by kernel_rfl) (by kernel_rfl) (by decide) (by kernel_rfl) rfl) ?_
  refine Runs.gnil ?_
  refine kS_nrm ?_
  refine Runs.ret ?_
  obtain rfl := Option.some.inj h
  exact ⟨Out.ret_ne, (by kernel_rfl)⟩
theorem index_From_L (b_ : (List Int)) (r : Source) (h : index_From b_ = some r) : L 25 [.d (.sl (List.map (D.int .u8) b_))] = some (.ptr [.d (.sl (List.map (D.int .u8) r.b)), .d (.int .i64 r.e)], [.d (.sl (List.map (D.int .u8) b_))]) := by
  obtain ⟨p, ⟨hne, hf⟩, hr⟩ := index_From_ok b_ r h
  obtain ⟨k, hk⟩ := run_of (F := F25) (args := [.d (.sl (List.map (D.int .u8) b_))]) (ap := [.d (.sl (List.map (D.int .u8) b_))]) (bx0 := updW (fun _ => none) []) rfl rfl (by kernel_rfl) ⟨p, ⟨hne, hf⟩, hr⟩
  exact lim_run (k := k) rfl hk
def index_Source_Wrong_Q (s_ : Source) (e_ : Int) (r : Source) (p : Out × St) : Prop := (∀ i, p.1 ≠ .exit i) ∧ finF F27 [.ptr [0] 0 0, .d (.int .i64 e_)] p.2 = some (.tup [], [.ptr [.d (.sl (List.map (D.int .u8) r.b)), .d (.int .i64 r.e)], .d (.int .i64 e_)])
theorem index_Source_Wrong_ok (s_ : Source) (e_ : Int) (r : Source) (h : index_Source_Wrong s_ e_ = some r) : Runs L F27.body ⟨tmOf [.ptr [0] 0 0, .d (.int .i64 e_)] 0, updW (fun _ => none) [([0], some (.cells [.d (.sl (List.map (D.int .u8) s_.b)), .d (.int .i64 s_.e)] 0))]⟩ (index_Source_Wrong_Q s_ e_ r) := by
  unfold index_Source_Wrong at h
  refine Runs.seq ?_
  refine Runs.seq ?_
  refine Runs.ops ?_
  refine RunAt.chunk 10 [⟨.ptr [0] 0 0, []⟩, ⟨.d (.bool true), []⟩, ⟨.d (.bool true), []⟩, ⟨.ptr [0] 0 0, []⟩, ⟨.ptr [0] 0 0, []⟩, ⟨.ptr [0] 0 1, []⟩, ⟨.d (.int .i64 s_.e), []⟩, ⟨.d (.bool (s_.e == 0)), []⟩, ⟨.d (.bool (s_.e == 0)), []⟩, ⟨.d (.bool (s_.e == 0)), []⟩] (by kernel_rfl) ?_
  cases hb_1 : ((s_.e == 0) : Bool) with
  | true =>
    replace h := ite_t hb_1 h
    refine RunAt.chunk 3 [⟨.d (.int .i64 e_), []⟩, ⟨.d (.bool (e_ != 0)), []⟩, ⟨.d (.bool (e_ != 0)), []⟩] (by kernel_rfl) ?_
    refine RunAt.done (by kernel_rfl) ?_
    refine kS_nrm ?_
    cases hb_2 : ((e_ != 0) : Bool) with
    | true =>
      replace h := ite_t hb_2 h
      refine Runs.cond_t (by kernel_rfl) ?_
      refine Runs.ops ?_
      refine RunAt.chunk 9 [⟨.ptr [0] 0 0, []⟩, ⟨.ptr [0] 0 0, []⟩, ⟨.d (.int .i64 e_), []⟩, ⟨.ptr [0] 0 0, []⟩, ⟨.ptr [0] 0 1, []⟩, ⟨.tup [], [([0], some (.cells [.d (.sl (List.map (D.int .u8) s_.b)), .d (.int .i64 e_)] 0))]⟩, ⟨.ptr [0] 0 0, []⟩, ⟨.ptr [0] 0 0, []⟩, ⟨.tup [], [([0], some (.cells [.nils, .d (.int .i64 e_)] 0))]⟩] (by kernel_rfl) ?_
      refine RunAt.done (by kernel_rfl) ?_
      refine kS_nrm ?_
      refine Runs.gcons (frzB_nil (ver := 0) (cs := [.nils, .d (.int .i64 e_)]) (cs' := [.d (.sl (List.map (D.int .u8) ([] : List Int))), .d (.int .i64 e_)]) (D.int .u8) (by kernel_rfl) (by kernel_rfl) (by kernel_rfl)) ?_
      refine Runs.gnil ?_
      obtain rfl := Option.some.inj h
      exact ⟨Out.nrm_ne, (by kernel_rfl)⟩
    | false =>
      replace h := ite_f hb_2 h
      refine Runs.cond_f (by kernel_rfl) ?_
      refine Runs.skip ?_
      refine kS_nrm ?_
      refine Runs.gsame (by kernel_rfl) ?_
      refine Runs.gnil ?_
      obtain rfl := Option.some.inj h
      exact ⟨Out.nrm_ne, (by kernel_rfl)⟩
  | false =>
    replace h := ite_f hb_1 h
    refine RunAt.chunk 3 [⟨.tup [], []⟩, ⟨.tup [], []⟩, ⟨.d (.bool false), []⟩] (by kernel_rfl) ?_
    refine RunAt.done (by kernel_rfl) ?_
    refine kS_nrm ?_
    refine Runs.cond_f (by kernel_rfl) ?_
    refine Runs.skip ?_
    refine kS_nrm ?_
    refine Runs.gsame (by kernel_rfl) ?_
    refine Runs.gnil ?_
    obtain rfl := Option.some.inj h
    exact ⟨Out.nrm_ne, (by kernel_rfl)⟩
theorem index_Source_Wrong_L (s_ : Source) (e_ : Int) (r : Source) (h : index_Source_Wrong s_ e_ = some r) : L 27 [.ptr [.d (.sl (List.map (D.int .u8) s_.b)), .d (.int .i64 s_.e)], .d (.int .i64 e_)] = some (.tup [], [.ptr [.d (.sl (List.map (D.int .u8) r.b)), .d (.int .i64 r.e)], .d (.int .i64 e_)]) := by
  obtain ⟨p, ⟨hne, hf⟩, hr⟩ := index_Source_Wrong_ok s_ e_ r h
  obtain ⟨k, hk⟩ := run_of (F := F27) (args := [.ptr [.d (.sl (List.map (D.int .u8) s_.b)), .d (.int .i64 s_.e)], .d (.int .i64 e_)]) (ap := [.ptr [0] 0 0, .d (.int .i64 e_)]) (bx0 := updW (fun _ => none) [([0], some (.cells [.d (.sl (List.map (D.int .u8) s_.b)), .d (.int .i64 s_.e)] 0))]) rfl rfl (by kernel_rfl) ⟨p, ⟨hne, hf⟩, hr⟩
  exact lim_run (k := k) rfl hk
def index_Source_Take_Q (s_ : Source) (n_ : Int) (r : ((List Int) × Source)) (p : Out × St) : Prop := (∀ i, p.1 ≠ .exit i) ∧ finF F26 [.ptr [0] 0 0, .d (.int .i64 n_)] p.2 = some (.d (.sl (List.map (D.int .u8) r.1)), [.ptr [.d (.sl (List.map (D.int .u8) r.2.b)), .d (.int .i64 r.2.e)], .d (.int .i64 n_)])
theorem index_Source_Take_ok (s_ : Source) (n_ : Int) (r : ((List Int) × Source)) (h : index_Source_Take s_ n_ = some r) : Runs L F26.body ⟨tmOf [.ptr [0] 0 0, .d (.int .i64 n_)] 0, updW (fun _ => none) [([0], some (.cells [.d (.sl (List.map (D.int .u8) s_.b)), .d (.int .i64 s_.e)] 0))]⟩ (index_Source_Take_Q s_ n_ r) := by
  unfold index_Source_Take at h
  refine Runs.seq ?_
  refine Runs.ops ?_
  refine RunAt.chunk 1 [⟨.nils, []⟩] (by kernel_rfl) ?_
  refine RunAt.done (by kernel_rfl) ?_
  refine kS_nrm ?_
  refine Runs.seq ?_
  refine Runs.seq ?_
  refine Runs.ops ?_
  refine RunAt.chunk 2 [⟨.ptr [0] 0 0, []⟩, ⟨.d (.bool false), []⟩] (by kernel_rfl) ?_
  refine RunAt.done (by kernel_rfl) ?_
  refine kS_nrm ?_
  refine Runs.cond_f (by kernel_rfl) ?_
  refine Runs.skip ?_
  refine kS_nrm ?_
  refine Runs.seq ?_
  refine Runs.seq ?_
  refine Runs.ops ?_
  refine RunAt.chunk 3 [⟨.d (.int .i64 n_), []⟩, ⟨.d (.bool (decide (n_ < 0))), []⟩, ⟨.d (.bool (decide (n_ < 0))), []⟩] (by kernel_rfl) ?_
  cases hb_1 : ((decide (n_ < 0)) : Bool) with
  | true =>
    replace h := ite_t hb_1 h
    refine RunAt.chunk 8 [⟨.tup [], []⟩, ⟨.tup [], []⟩, ⟨.tup [], []⟩, ⟨.tup [], []⟩, ⟨.tup [], []⟩, ⟨.tup [], []⟩, ⟨.tup [], []⟩, ⟨.d (.bool true), []⟩] (by kernel_rfl) ?_
    refine RunAt.done (by kernel_rfl) ?_
    refine kS_nrm ?_
    refine Runs.cond_t (by kernel_rfl) ?_
    refine Runs.seq ?_
    refine Runs.ops ?_
    refine RunAt.chunk 1 [⟨.ptr [0] 0 0, []⟩] (by kernel_rfl) ?_
    obtain ⟨r_1, hr_1, h⟩ := bind_s h
    have hc_1 := index_Source_Wrong_L s_ 2 r_1 hr_1
    refine RunAt.cut (some 20) (.callf 27) [] none [.ptr [0] 0 0, .d (.int .i64 2)] (.tup []) [([0], some (.cells [.d (.sl (List.map (D.int .u8) r_1.b)), .d (.int .i64 r_1.e)] 0))] (by kernel_rfl) (by kernel_rfl) (by kernel_rfl) (cut_call (call_of (ws := []) (us := [([0], some (.cells [.d (.sl (List.map (D.int .u8) r_1.b)), .d (.int .i64 r_1.e)] 0))]) (by kernel_rfl) (by kernel_rfl) hc_1 (by kernel_rfl) (by kernel_rfl))) ?_
    refine RunAt.done (by kernel_rfl) ?_
    refine kS_nrm ?_
    refine Runs.seq ?_
    refine Runs.ops ?_
    refine RunAt.chunk 1 [⟨.nils, []⟩] (by kernel_rfl) ?_
    refine RunAt.done (by kernel_rfl) ?_
    refine kS_nrm ?_
    refine Runs.seq ?_
    refine Runs.gcons (frz_nil (D.int .u8) (by kernel_rfl)) ?_
    refine Runs.gnil ?_
    refine kS_nrm ?_
    refine Runs.ret ?_
    refine kS_ret ?_
    obtain rfl := Option.some.inj h
    exact ⟨Out.ret_ne, (by kernel_rfl)⟩
  | false =>
    replace h := ite_f hb_1 h
    refine RunAt.chunk 5 [⟨.d (.int .i64 n_), []⟩, ⟨.ptr [0] 0 0, []⟩, ⟨.ptr [0] 0 0, []⟩, ⟨.ptr [0] 0 0, []⟩, ⟨.d (.sl (List.map (D.int .u8) s_.b)), []⟩] (by kernel_rfl) ?_
    refine RunAt.cut (some 16) .lenL [] none [.d (.sl (List.map (D.int .u8) s_.b))] (.d (.int .i64 (s_.b.length : Int))) [] (by kernel_rfl) (by kernel_rfl) (by kernel_rfl) (cut_len _) ?_
    refine RunAt.chunk 2 [⟨.d (.bool (decide (n_ > (s_.b.length : Int)))), []⟩, ⟨.d (.bool (decide (n_ > (s_.b.length : Int)))), []⟩] (by kernel_rfl) ?_
    refine RunAt.done (by kernel_rfl) ?_
    refine kS_nrm ?_
    cases hb_2 : ((decide (n_ > (s_.b.length : Int))) : Bool) with
    | true =>
      replace h := ite_t hb_2 h
      refine Runs.cond_t (by kernel_rfl) ?_
      refine Runs.seq ?_
      refine Runs.ops ?_
      refine RunAt.chunk 1 [⟨.ptr [0] 0 0, []⟩] (by kernel_rfl) ?_
      obtain ⟨r_2, hr_2, h⟩ := bind_s h
      have hc_2 := index_Source_Wrong_L s_ 2 r_2 hr_2
      refine RunAt.cut (some 20) (.callf 27) [] none [.ptr [0] 0 0, .d (.int .i64 2)] (.tup []) [([0], some (.cells [.d (.sl (List.map (D.int .u8) r_2.b)), .d (.int .i64 r_2.e)] 0))] (by kernel_rfl) (by kernel_rfl) (by kernel_rfl) (cut_call (call_of (ws := []) (us := [([0], some (.cells [.d (.sl (List.map (D.int .u8) r_2.b)), .d (.int .i64 r_2.e)] 0))]) (by kernel_rfl) (by kernel_rfl) hc_2 (by kernel_rfl) (by kernel_rfl))) ?_
      refine RunAt.done (by kernel_rfl) ?_
      refine kS_nrm ?_
      refine Runs.seq ?_
      refine Runs.ops ?_
      refine RunAt.chunk 1 [⟨.nils, []⟩] (by kernel_rfl) ?_
      refine RunAt.done (by kernel_rfl) ?_
      refine kS_nrm ?_
      refine Runs.seq ?_
      refine Runs.gcons (frz_nil (D.int .u8) (by kernel_rfl)) ?_
      refine Runs.gnil ?_
      refine kS_nrm ?_
      refine Runs.ret ?_
      refine kS_ret ?_
      obtain rfl := Option.some.inj h
      exact ⟨Out.ret_ne, (by kernel_rfl)⟩
    | false =>
      replace h := ite_f hb_2 h
      refine Runs.cond_f (by kernel_rfl) ?_
      refine Runs.skip ?_
      refine kS_nrm ?_
      refine Runs.seq ?_
      refine Runs.ops ?_
      refine RunAt.chunk 6 [⟨.ptr [0] 0 0, []⟩, ⟨.ptr [0] 0 0, []⟩, ⟨.ptr [0] 0 0, []⟩, ⟨.d (.sl (List.map (D.int .u8) s_.b)), []⟩, ⟨.d (.int .i64 n_), []⟩, ⟨.d (.int .i64 n_), []⟩] (by kernel_rfl) ?_
      obtain ⟨z_1, hz_1, h⟩ := bind_s h
      refine RunAt.cut (some 27) (.subsl 1 false true true) [] none [.d (.sl (List.map (D.int .u8) s_.b)), .d (.int .i64 n_), .d (.int .i64 n_)] (.d (.sl (List.map (D.int .u8) z_1))) [] (by kernel_rfl) (by kernel_rfl) (by kernel_rfl) (cut_slFTT hz_1 (fun _ => rfl)) ?_
      refine RunAt.chunk 1 [⟨.d (.sl (List.map (D.int .u8) z_1)), []⟩] (by kernel_rfl) ?_
      refine RunAt.done (by kernel_rfl) ?_
      refine kS_nrm ?_
      refine Runs.seq ?_
      refine Runs.ops ?_
      refine RunAt.chunk 6 [⟨.ptr [0] 0 0, []⟩, ⟨.ptr [0] 0 0, []⟩, ⟨.ptr [0] 0 0, []⟩, ⟨.ptr [0] 0 0, []⟩, ⟨.d (.sl (List.map (D.int .u8) s_.b)), []⟩, ⟨.d (.int .i64 n_), []⟩] (by kernel_rfl) ?_
      obtain ⟨z_2, hz_2, h⟩ := bind_s h
      refine RunAt.cut (some 34) (.subsl 1 true false false) [] none [.d (.sl (List.map (D.int .u8) s_.b)), .d (.int .i64 n_)] (.d (.sl (List.map (D.int .u8) z_2))) [] (by kernel_rfl) (by kernel_rfl) (by kernel_rfl) (cut_slTF hz_2 (fun _ => rfl)) ?_
      refine RunAt.chunk 3 [⟨.ptr [0] 0 0, []⟩, ⟨.ptr [0] 0 0, []⟩, ⟨.tup [], [([0], some (.cells [.d (.sl (List.map (D.int .u8) z_2)), .d (.int .i64 s_.e)] 0))]⟩] (by kernel_rfl) ?_
      refine RunAt.done (by kernel_rfl) ?_
      refine kS_nrm ?_
      refine Runs.seq ?_
      refine Runs.ops ?_
      refine RunAt.chunk 2 [⟨.d (.sl (List.map (D.int .u8) z_1)), []⟩, ⟨.d (.sl (List.map (D.int .u8) z_1)), []⟩] (by kernel_rfl) ?_
      refine RunAt.done (by kernel_rfl) ?_
      refine kS_nrm ?_
      refine Runs.ret ?_
      obtain rfl := Option.some.inj h
      exact ⟨Out.ret_ne, (by kernel_rfl)⟩
theorem index_Source_Take_L (s_ : Source) (n_ : Int) (r : ((List Int) × Source)) (h : index_Source_Take s_ n_ = some r) : L 26 [.ptr [.d (.sl (List.map (D.int .u8) s_.b)), .d (.int .i64 s_.e)], .d (.int .i64 n_)] = some (.d (.sl (List.map (D.int .u8) r.1)), [.ptr [.d (.sl (List.map (D.int .u8) r.2.b)), .d (.int .i64 r.2.e)], .d (.int .i64 n_)]) := by
  obtain ⟨p, ⟨hne, hf⟩, hr⟩ := index_Source_Take_ok s_ n_ r h
  obtain ⟨k, hk⟩ := run_of (F := F26) (args := [.ptr [.d (.sl (List.map (D.int .u8) s_.b)), .d (.int .i64 s_.e)], .d (.int .i64 n_)]) (ap := [.ptr [0] 0 0, .d (.int .i64 n_)]) (bx0 := updW (fun _ => none) [([0], some (.cells [.d (.sl (List.map (D.int .u8) s_.b)), .d (.int .i64 s_.e)] 0))]) rfl rfl (by kernel_rfl) ⟨p, ⟨hne, hf⟩, hr⟩
  exact lim_run (k := k) rfl hk
def index_Source_Byte_Q (s_ : Source) (r : (Int × Source)) (p : Out × St) : Prop := (∀ i, p.1 ≠ .exit i) ∧ finF F35 [.ptr [0] 0 0] p.2 = some (.d (.int .u8 r.1), [.ptr [.d (.sl (List.map (D.int .u8) r.2.b)), .d (.int .i64 r.2.e)]])
theorem index_Source_Byte_ok (s_ : Source) (r : (Int × Source)) (h : index_Source_Byte s_ = some r) : Runs L F35.body ⟨tmOf [.ptr [0] 0 0] 0, updW (fun _ => none) [([0], some (.cells [.d (.sl (List.map (D.int .u8) s_.b)), .d (.int .i64 s_.e)] 0))]⟩ (index_Source_Byte_Q s_ r) := by
  unfold index_Source_Byte at h
  refine Runs.seq ?_
  refine Runs.ops ?_
  refine RunAt.chunk 1 [⟨.d (.int .u8 0), []⟩] (by kernel_rfl) ?_
  refine RunAt.done (by kernel_rfl) ?_
  refine kS_nrm ?_
  refine Runs.seq ?_
  refine Runs.seq ?_
  refine Runs.ops ?_
  refine RunAt.chunk 1 [⟨.ptr [0] 0 0, []⟩] (by kernel_rfl) ?_
  obtain ⟨r_1, hr_1, h⟩ := bind_s h
  have hc_1 := index_Source_Take_L s_ 1 r_1 hr_1
  refine RunAt.cut (some 5) (.callf 26) [] none [.ptr [0] 0 0, .d (.int .i64 1)] (.d (.sl (List.map (D.int .u8) r_1.1))) [([0], some (.cells [.d (.sl (List.map (D.int .u8) r_1.2.b)), .d (.int .i64 r_1.2.e)] 0))] (by kernel_rfl) (by kernel_rfl) (by kernel_rfl) (cut_call (call_of (ws := []) (us := [([0], some (.cells [.d (.sl (List.map (D.int .u8) r_1.2.b)), .d (.int .i64 r_1.2.e)] 0))]) (by kernel_rfl) (by kernel_rfl) hc_1 (by kernel_rfl) (by kernel_rfl))) ?_
  refine RunAt.chunk 1 [⟨.d (.sl (List.map (D.int .u8) r_1.1)), []⟩] (by kernel_rfl) ?_
  refine RunAt.done (by kernel_rfl) ?_
  refine kS_nrm ?_
  refine Runs.seq ?_
  refine Runs.ops ?_
  refine RunAt.chunk 1 [⟨.d (.sl (List.map (D.int .u8) r_1.1)), []⟩] (by kernel_rfl) ?_
  refine RunAt.cut (some 7) .lenL [] none [.d (.sl (List.map (D.int .u8) r_1.1))] (.d (.int .i64 (r_1.1.length : Int))) [] (by kernel_rfl) (by kernel_rfl) (by kernel_rfl) (cut_len _) ?_
  refine RunAt.chunk 1 [⟨.d (.bool ((r_1.1.length : Int) == 1)), []⟩] (by kernel_rfl) ?_
  refine RunAt.done (by kernel_rfl) ?_
  refine kS_nrm ?_
  cases hb_1 : (((r_1.1.length : Int) == 1) : Bool) with
  | true =>
    replace h := ite_t hb_1 h
    refine Runs.cond_t (by kernel_rfl) ?_
    refine Runs.seq ?_
    refine Runs.ops ?_
    refine RunAt.chunk 1 [⟨.d (.sl (List.map (D.int .u8) r_1.1)), []⟩] (by kernel_rfl) ?_
    obtain ⟨z_1, hz_1, h⟩ := bind_s h
    refine RunAt.cut (some 10) (.iaddrS 1) [] none [.d (.sl (List.map (D.int .u8) r_1.1)), .d (.int .i64 0)] (.elt (.int .u8 z_1) 0) [] (by kernel_rfl) (by kernel_rfl) (by kernel_rfl) (cut_at hz_1 (fun _ => rfl)) ?_
    refine RunAt.chunk 2 [⟨.d (.int .u8 z_1), []⟩, ⟨.d (.int .u8 z_1), []⟩] (by kernel_rfl) ?_
    refine RunAt.done (by kernel_rfl) ?_
    refine kS_nrm ?_
    refine Runs.ret ?_
    refine kS_ret ?_
    obtain rfl := Option.some.inj h
    exact ⟨Out.ret_ne, (by kernel_rfl)⟩
  | false =>
    replace h := ite_f hb_1 h
    refine Runs.cond_f (by kernel_rfl) ?_
    refine Runs.skip ?_
    refine kS_nrm ?_
    refine Runs.seq ?_
    refine Runs.ops ?_
    refine RunAt.chunk 1 [⟨.d (.int .u8 0), []⟩] (by kernel_rfl) ?_
    refine RunAt.done (by kernel_rfl) ?_
    refine kS_nrm ?_
    refine Runs.ret ?_
    obtain rfl := Option.some.inj h
    exact ⟨Out.ret_ne, (by kernel_rfl)⟩
theorem index_Source_Byte_L (s_ : Source) (r : (Int × Source)) (h : index_Source_Byte s_ = some r) : L 35 [.ptr [.d (.sl (List.map (D.int .u8) s_.b)), .d (.int .i64 s_.e)]] = some (.d (.int .u8 r.1), [.ptr [.d (.sl (List.map (D.int .u8) r.2.b)), .d (.int .i64 r.2.e)]]) := by
  obtain ⟨p, ⟨hne, hf⟩, hr⟩ := index_Source_Byte_ok s_ r h
  obtain ⟨k, hk⟩ := run_of (F := F35) (args := [.ptr [.d (.sl (List.map (D.int .u8) s_.b)), .d (.int .i64 s_.e)]]) (ap := [.ptr [0] 0 0]) (bx0 := updW (fun _ => none) [([0], some (.cells [.d (.sl (List.map (D.int .u8) s_.b)), .d (.int .i64 s_.e)] 0))]) rfl rfl (by kernel_rfl) ⟨p, ⟨hne, hf⟩, hr⟩
  exact lim_run (k := k) rfl hk
def index_Source_Err_Q (s_ : Source) (r : Int) (p : Out × St) : Prop := (∀ i, p.1 ≠ .exit i) ∧ finF F28 [.ptr [0] 0 0] p.2 = some (.d (.int .i64 r), [.ptr [.d (.sl (List.map (D.int .u8) s_.b)), .d (.int .i64 s_.e)]])
theorem index_Source_Err_ok (s_ : Source) (r : Int) (h : index_Source_Err s_ = some r) : Runs L F28.body ⟨tmOf [.ptr [0] 0 0] 0, updW (fun _ => none) [([0], some (.cells [.d (.sl (List.map (D.int .u8) s_.b)), .d (.int .i64 s_.e)] 0))]⟩ (index_Source_Err_Q s_ r) := by
  unfold index_Source_Err at h
  refine Runs.seq ?_
  refine Runs.ops ?_
  refine RunAt.chunk 1 [⟨.d (.int .i64 0), []⟩] (by kernel_rfl) ?_
  refine RunAt.done (by kernel_rfl) ?_
  refine kS_nrm ?_
  refine Runs.seq ?_
  refine Runs.seq ?_
  refine Runs.ops ?_
  refine RunAt.chunk 2 [⟨.ptr [0] 0 0, []⟩, ⟨.d (.bool false), []⟩] (by kernel_rfl) ?_
  refine RunAt.done (by kernel_rfl) ?_
  refine kS_nrm ?_
  refine Runs.cond_f (by kernel_rfl) ?_
  refine Runs.skip ?_
  refine kS_nrm ?_
  refine Runs.seq ?_
  refine Runs.ops ?_
  refine RunAt.chunk 5 [⟨.ptr [0] 0 0, []⟩, ⟨.ptr [0] 0 0, []⟩, ⟨.ptr [0] 0 1, []⟩, ⟨.d (.int .i64 s_.e), []⟩, ⟨.d (.int .i64 s_.e), []⟩] (by kernel_rfl) ?_
  refine RunAt.done (by kernel_rfl) ?_
  refine kS_nrm ?_
  refine Runs.ret ?_
  obtain rfl := Option.some.inj h
  exact ⟨Out.ret_ne, (by kernel_rfl)⟩
theorem index_Source_Err_L (s_ : Source) (r : Int) (h : index_Source_Err s_ = some r) : L 28 [.ptr [.d (.sl (List.map (D.int .u8) s_.b)), .d (.int .i64 s_.e)]] = some (.d (.int .i64 r), [.ptr [.d (.sl (List.map (D.int .u8) s_.b)), .d (.int .i64 s_.e)]]) := by
  obtain ⟨p, ⟨hne, hf⟩, hr⟩ := index_Source_Err_ok s_ r h
  obtain ⟨k, hk⟩ := run_of (F := F28) (args := [.ptr [.d (.sl (List.map (D.int .u8) s_.b)), .d (.int .i64 s_.e)]]) (ap := [.ptr [0] 0 0]) (bx0 := updW (fun _ => none) [([0], some (.cells [.d (.sl (List.map (D.int .u8) s_.b)), .d (.int .i64 s_.e)] 0))]) rfl rfl (by kernel_rfl) ⟨p, ⟨hne, hf⟩, hr⟩
  exact lim_run (k := k) rfl hk
def index_Source_Index_Q (s_ : Source) (r : (Int × Source)) (p : Out × St) : Prop := (∀ i, p.1 ≠ .exit i) ∧ finF F31 [.ptr [0] 0 0] p.2 = some (.d (.int .i64 r.1), [.ptr [.d (.sl (List.map (D.int .u8) r.2.b)), .d (.int .i64 r.2.e)]])
theorem index_Source_Index_ok (s_ : Source) (r : (Int × Source)) (h : index_Source_Index s_ = some r) : Runs L F31.body ⟨tmOf [.ptr [0] 0 0] 0, updW (fun _ => none) [([0], some (.cells [.d (.sl (List.map (D.int .u8) s_.b)), .d (.int .i64 s_.e)] 0))]⟩ (index_Source_Index_Q s_ r) := by
  unfold index_Source_Index at h
  refine Runs.seq ?_
  refine Runs.ops ?_
  refine RunAt.chunk 1 [⟨.d (.int .i64 0), []⟩] (by kernel_rfl) ?_
  refine RunAt.done (by kernel_rfl) ?_
  refine kS_nrm ?_
  refine Runs.seq ?_
  refine Runs.ops ?_
  refine RunAt.chunk 1 [⟨.ptr [0] 0 0, []⟩] (by kernel_rfl) ?_
  obtain ⟨r_1, hr_1, h⟩ := bind_s h
  have hc_1 := index_Source_Byte_L s_ r_1 hr_1
  refine RunAt.cut (some 6) (.callf 35) [] none [.ptr [0] 0 0] (.d (.int .u8 r_1.1)) [([0], some (.cells [.d (.sl (List.map (D.int .u8) r_1.2.b)), .d (.int .i64 r_1.2.e)] 0))] (by kernel_rfl) (by kernel_rfl) (by kernel_rfl) (cut_call (call_of (ws := []) (us := [([0], some (.cells [.d (.sl (List.map (D.int .u8) r_1.2.b)), .d (.int .i64 r_1.2.e)] 0))]) (by kernel_rfl) (by kernel_rfl) hc_1 (by kernel_rfl) (by kernel_rfl))) ?_
  refine RunAt.chunk 2 [⟨.d (.int .i64 (IntKind.wrap .i64 r_1.1)), []⟩, ⟨.d (.int .i64 (IntKind.wrap .i64 r_1.1)), []⟩] (by kernel_rfl) ?_
  refine RunAt.done (by kernel_rfl) ?_
  refine kS_nrm ?_
  refine Runs.seq ?_
  refine Runs.seq ?_
  refine Runs.ops ?_
  refine RunAt.chunk 2 [⟨.d (.int .i64 (IntKind.wrap .i64 r_1.1)), []⟩, ⟨.d (.bool (decide ((IntKind.wrap .i64 r_1.1) < 128))), []⟩] (by kernel_rfl) ?_
  refine RunAt.done (by kernel_rfl) ?_
  refine kS_nrm ?_
  cases hb_1 : ((decide ((IntKind.wrap .i64 r_1.1) < 128)) : Bool) with
  | true =>
    replace h := ite_t hb_1 h
    refine Runs.cond_t (by kernel_rfl) ?_
    refine Runs.seq ?_
    refine Runs.ops ?_
    refine RunAt.chunk 2 [⟨.d (.int .i64 (IntKind.wrap .i64 r_1.1)), []⟩, ⟨.d (.int .i64 (IntKind.wrap .i64 r_1.1)), []⟩] (by kernel_rfl) ?_
    refine RunAt.done (by kernel_rfl) ?_
    refine kS_nrm ?_
    refine Runs.ret ?_
    refine kS_ret ?_
    obtain rfl := Option.some.inj h
    exact ⟨Out.ret_ne, (by kernel_rfl)⟩
  | false =>
    replace h := ite_f hb_1 h
    refine Runs.cond_f (by kernel_rfl) ?_
    refine Runs.skip ?_
    refine kS_nrm ?_
    refine Runs.seq ?_
    refine Runs.ops ?_
    refine RunAt.chunk 4 [⟨.d (.int .i64 (IntKind.wrap .i64 r_1.1)), []⟩, ⟨.d (.int .i64 (bitsOp .and .i64 (IntKind.wrap .i64 r_1.1) 127)), []⟩, ⟨.d (.int .i64 (shlI .i64 (bitsOp .and .i64 (IntKind.wrap .i64 r_1.1) 127) 8)), []⟩, ⟨.ptr [0] 0 0, []⟩] (by kernel_rfl) ?_
    obtain ⟨r_2, hr_2, h⟩ := bind_s h
    have hc_2 := index_Source_Byte_L r_1.2 r_2 hr_2
    refine RunAt.cut (some 15) (.callf 35) [] none [.ptr [0] 0 0] (.d (.int .u8 r_2.1)) [([0], some (.cells [.d (.sl (List.map (D.int .u8) r_2.2.b)), .d (.int .i64 r_2.2.e)] 0))] (by kernel_rfl) (by kernel_rfl) (by kernel_rfl) (cut_call (call_of (ws := []) (us := [([0], some (.cells [.d (.sl (List.map (D.int .u8) r_2.2.b)), .d (.int .i64 r_2.2.e)] 0))]) (by kernel_rfl) (by kernel_rfl) hc_2 (by kernel_rfl) (by kernel_rfl))) ?_
    refine RunAt.chunk 3 [⟨.d (.int .i64 (IntKind.wrap .i64 r_2.1)), []⟩, ⟨.d (.int .i64 (bitsOp .or .i64 (shlI .i64 (bitsOp .and .i64 (IntKind.wrap .i64 r_1.1) 127) 8) (IntKind.wrap .i64 r_2.1))), []⟩, ⟨.d (.int .i64 (bitsOp .or .i64 (shlI .i64 (bitsOp .and .i64 (IntKind.wrap .i64 r_1.1) 127) 8) (IntKind.wrap .i64 r_2.1))), []⟩] (by kernel_rfl) ?_
    refine RunAt.done (by kernel_rfl) ?_
    refine kS_nrm ?_
    refine Runs.seq ?_
    refine Runs.seq ?_
    refine Runs.ops ?_
    refine RunAt.chunk 1 [⟨.ptr [0] 0 0, []⟩] (by kernel_rfl) ?_
    obtain ⟨r_3, hr_3, h⟩ := bind_s h
    have hc_3 := index_Source_Err_L r_2.2 r_3 hr_3
    refine RunAt.cut (some 19) (.callf 28) [] none [.ptr [0] 0 0] (.d (.int .i64 r_3)) [([0], some (.cells [.d (.sl (List.map (D.int .u8) r_2.2.b)), .d (.int .i64 r_2.2.e)] 0))] (by kernel_rfl) (by kernel_rfl) (by kernel_rfl) (cut_call (call_of (ws := []) (us := [([0], some (.cells [.d (.sl (List.map (D.int .u8) r_2.2.b)), .d (.int .i64 r_2.2.e)] 0))]) (by kernel_rfl) (by kernel_rfl) hc_3 (by kernel_rfl) (by kernel_rfl))) ?_
    refine RunAt.chunk 1 [⟨.d (.bool (r_3 != 0)), []⟩] (by kernel_rfl) ?_
    refine RunAt.done (by kernel_rfl) ?_
    refine kS_nrm ?_
    cases hb_2 : ((r_3 != 0) : Bool) with
    | true =>
      replace h := ite_t hb_2 h
      refine Runs.cond_t (by kernel_rfl) ?_
      refine Runs.seq ?_
      refine Runs.ops ?_
      refine RunAt.chunk 1 [⟨.d (.int .i64 0), []⟩] (by kernel_rfl) ?_
      refine RunAt.done (by kernel_rfl) ?_
      refine kS_nrm ?_
      refine Runs.ret ?_
      refine kS_ret ?_
      obtain rfl := Option.some.inj h
      exact ⟨Out.ret_ne, (by kernel_rfl)⟩
    | false =>
      replace h := ite_f hb_2 h
      refine Runs.cond_f (by kernel_rfl) ?_
      refine Runs.skip ?_
      refine kS_nrm ?_
      refine Runs.seq ?_
      refine Runs.ops ?_
      refine RunAt.chunk 2 [⟨.d (.int .i64 (bitsOp .or .i64 (shlI .i64 (bitsOp .and .i64 (IntKind.wrap .i64 r_1.1) 127) 8) (IntKind.wrap .i64 r_2.1))), []⟩, ⟨.d (.int .i64 (bitsOp .or .i64 (shlI .i64 (bitsOp .and .i64 (IntKind.wrap .i64 r_1.1) 127) 8) (IntKind.wrap .i64 r_2.1))), []⟩] (by kernel_rfl) ?_
      refine RunAt.done (by kernel_rfl) ?_
      refine kS_nrm ?_
      refine Runs.ret ?_
      obtain rfl := Option.some.inj h
      exact ⟨Out.ret_ne, (by kernel_rfl)⟩
theorem index_Source_Index_L (s_ : Source) (r : (Int × Source)) (h : index_Source_Index s_ = some r) : L 31 [.ptr [.d (.sl (List.map (D.int .u8) s_.b)), .d (.int .i64 s_.e)]] = some (.d (.int .i64 r.1), [.ptr [.d (.sl (List.map (D.int .u8) r.2.b)), .d (.int .i64 r.2.e)]]) := by
  obtain ⟨p, ⟨hne, hf⟩, hr⟩ := index_Source_Index_ok s_ r h
  obtain ⟨k, hk⟩ := run_of (F := F31) (args := [.ptr [.d (.sl (List.map (D.int .u8) s_.b)), .d (.int .i64 s_.e)]]) (ap := [.ptr [0] 0 0]) (bx0 := updW (fun _ => none) [([0], some (.cells [.d (.sl (List.map (D.int .u8) s_.b)), .d (.int .i64 s_.e)] 0))]) rfl rfl (by kernel_rfl) ⟨p, ⟨hne, hf⟩, hr⟩
  exact lim_run (k := k) rfl hk
def index_Source_Name_Q (s_ : Source) (r : ((List UInt8) × Source)) (p : Out × St) : Prop := (∀ i, p.1 ≠ .exit i) ∧ finF F32 [.ptr [0] 0 0] p.2 = some (.d (.str r.1), [.ptr [.d (.sl (List.map (D.int .u8) r.2.b)), .d (.int .i64 r.2.e)]])
theorem index_Source_Name_ok (s_ : Source) (r : ((List UInt8) × Source)) (h : index_Source_Name s_ = some r) : Runs L F32.body ⟨tmOf [.ptr [0] 0 0] 0, updW (fun _ => none) [([0], some (.cells [.d (.sl (List.map (D.int .u8) s_.b)), .d (.int .i64 s_.e)] 0))]⟩ (index_Source_Name_Q s_ r) := by
  unfold index_Source_Name at h
  refine Runs.seq ?_
  refine Runs.ops ?_
  refine RunAt.chunk 1 [⟨.d (.str ([] : List UInt8)), []⟩] (by kernel_rfl) ?_
  refine RunAt.done (by kernel_rfl) ?_
  refine kS_nrm ?_
  refine Runs.seq ?_
  refine Runs.ops ?_
  refine RunAt.chunk 2 [⟨.ptr [0] 0 0, []⟩, ⟨.ptr [0] 0 0, []⟩] (by kernel_rfl) ?_
  obtain ⟨r_1, hr_1, h⟩ := bind_s h
  have hc_1 := index_Source_Byte_L s_ r_1 hr_1
  refine RunAt.cut (some 5) (.callf 35) [] none [.ptr [0] 0 0] (.d (.int .u8 r_1.1)) [([0], some (.cells [.d (.sl (List.map (D.int .u8) r_1.2.b)), .d (.int .i64 r_1.2.e)] 0))] (by kernel_rfl) (by kernel_rfl) (by kernel_rfl) (cut_call (call_of (ws := []) (us := [([0], some (.cells [.d (.sl (List.map (D.int .u8) r_1.2.b)), .d (.int .i64 r_1.2.e)] 0))]) (by kernel_rfl) (by kernel_rfl) hc_1 (by kernel_rfl) (by kernel_rfl))) ?_
  refine RunAt.chunk 1 [⟨.d (.int .i64 (IntKind.wrap .i64 r_1.1)), []⟩] (by kernel_rfl) ?_
  obtain ⟨r_2, hr_2, h⟩ := bind_s h
  have hc_2 := index_Source_Take_L r_1.2 (IntKind.wrap .i64 r_1.1) r_2 hr_2
  refine RunAt.cut (some 7) (.callf 26) [] none [.ptr [0] 0 0, .d (.int .i64 (IntKind.wrap .i64 r_1.1))] (.d (.sl (List.map (D.int .u8) r_2.1))) [([0], some (.cells [.d (.sl (List.map (D.int .u8) r_2.2.b)), .d (.int .i64 r_2.2.e)] 0))] (by kernel_rfl) (by kernel_rfl) (by kernel_rfl) (cut_call (call_of (ws := []) (us := [([0], some (.cells [.d (.sl (List.map (D.int .u8) r_2.2.b)), .d (.int .i64 r_2.2.e)] 0))]) (by kernel_rfl) (by kernel_rfl) hc_2 (by kernel_rfl) (by kernel_rfl))) ?_
  refine RunAt.cut (some 8) .bytesStr [] none [.d (.sl (List.map (D.int .u8) r_2.1))] (.d (.str (b2s r_2.1))) [] (by kernel_rfl) (by kernel_rfl) (by kernel_rfl) (cut_bs _) ?_
  refine RunAt.chunk 1 [⟨.d (.str (b2s r_2.1)), []⟩] (by kernel_rfl) ?_
  refine RunAt.done (by kernel_rfl) ?_
  refine kS_nrm ?_
  refine Runs.ret ?_
  obtain rfl := Option.some.inj h
  exact ⟨Out.ret_ne, (by kernel_rfl)⟩
theorem index_Source_Name_L (s_ : Source) (r : ((List UInt8) × Source)) (h : index_Source_Name s_ = some r) : L 32 [.ptr [.d (.sl (List.map (D.int .u8) s_.b)), .d (.int .i64 s_.e)]] = some (.d (.str r.1), [.ptr [.d (.sl (List.map (D.int .u8) r.2.b)), .d (.int .i64 r.2.e)]]) := by
  obtain ⟨p, ⟨hne, hf⟩, hr⟩ := index_Source_Name_ok s_ r h
  obtain ⟨k, hk⟩ := run_of (F := F32) (args := [.ptr [.d (.sl (List.map (D.int .u8) s_.b)), .d (.int .i64 s_.e)]]) (ap := [.ptr [0] 0 0]) (bx0 := updW (fun _ => none) [([0], some (.cells [.d (.sl (List.map (D.int .u8) s_.b)), .d (.int .i64 s_.e)] 0))]) rfl rfl (by kernel_rfl) ⟨p, ⟨hne, hf⟩, hr⟩
  exact lim_run (k := k) rfl hk
def index_Put_Q (n_ : Int) (r : (List Int)) (p : Out × St) : Prop := (∀ i, p.1 ≠ .exit i) ∧ finF F16 [.d (.int .i64 n_)] p.2 = some (.d (.sl (List.map (D.int .u8) r)), [.d (.int .i64 n_)])
theorem index_Put_ok (n_ : Int) (r : (List Int)) (h : index_Put n_ = some r) : Runs L F16.body ⟨tmOf [.d (.int .i64 n_)] 0, updW (fun _ => none) []⟩ (index_Put_Q n_ r) := by
  unfold index_Put at h
  refine Runs.seq ?_
  refine Runs.ops ?_
  refine RunAt.chunk 1 [⟨.nils, []⟩] (by kernel_rfl) ?_
  refine RunAt.done (by kernel_rfl) ?_
  refine kS_nrm ?_
  refine Runs.seq ?_
  refine Runs.block ?_
  refine Runs.seq ?_
  refine Runs.ops ?_
  refine RunAt.chunk 3 [⟨.d (.int .i64 n_), []⟩, ⟨.d (.bool (decide (n_ < 0))), []⟩, ⟨.d (.bool (decide (n_ < 0))), []⟩] (by kernel_rfl) ?_
  cases hb_1 : ((decide (n_ < 0)) : Bool) with
  | true =>
    replace h := ite_t hb_1 h
    refine RunAt.chunk 4 [⟨.tup [], []⟩, ⟨.tup [], []⟩, ⟨.d (.bool true), []⟩, ⟨.d (.bool true), []⟩] (by kernel_rfl) ?_
    refine RunAt.done (by kernel_rfl) ?_
    refine kS_nrm ?_
    refine Runs.cond_t (by kernel_rfl) ?_
    refine Runs.seq ?_
    refine Runs.ops ?_
    refine RunAt.chunk 2 [⟨.ref [10] 0 0 (List.map (D.int .u8) ([0] : List Int)).length 1, [([10], some (.arr (List.map (D.int .u8) ([0] : List Int)) 0 false))]⟩, ⟨.ref [10] 0 0 (List.map (D.int .u8) ([0] : List Int)).length 1, []⟩] (by kernel_rfl) ?_
    refine RunAt.done (by kernel_rfl) ?_
    refine kS_nrm ?_
    refine Runs.seq ?_
    refine Runs.gcons (frz_ref (e := (D.int .u8)) (l := ([0] : List Int)) (id := [10]) (v := 0) (n := 1) (fz := false) (by kernel_rfl) (by kernel_rfl) rfl) ?_
    refine Runs.gnil ?_
    refine kS_nrm ?_
    refine Runs.ret ?_
    refine kB_ret ?_
    refine kS_ret ?_
    obtain rfl := Option.some.inj h
    exact ⟨Out.ret_ne, (by kernel_rfl)⟩
  | false =>
    replace h := ite_f hb_1 h
    refine RunAt.chunk 4 [⟨.d (.int .i64 n_), []⟩, ⟨.d (.bool (decide (n_ > 32767))), []⟩, ⟨.d (.bool (decide (n_ > 32767))), []⟩, ⟨.d (.bool (decide (n_ > 32767))), []⟩] (by kernel_rfl) ?_
    refine RunAt.done (by kernel_rfl) ?_
    refine kS_nrm ?_
    cases hb_2 : ((decide (n_ > 32767)) : Bool) with
    | true =>
      replace h := ite_t hb_2 h
      refine Runs.cond_t (by kernel_rfl) ?_
      refine Runs.seq ?_
      refine Runs.ops ?_
      refine RunAt.chunk 2 [⟨.ref [10] 0 0 (List.map (D.int .u8) ([0] : List Int)).length 1, [([10], some (.arr (List.map (D.int .u8) ([0] : List Int)) 0 false))]⟩, ⟨.ref [10] 0 0 (List.map (D.int .u8) ([0] : List Int)).length 1, []⟩] (by kernel_rfl) ?_
      refine RunAt.done (by kernel_rfl) ?_
      refine kS_nrm ?_
      refine Runs.seq ?_
      refine Runs.gcons (frz_ref (e := (D.int .u8)) (l := ([0] : List Int)) (id := [10]) (v := 0) (n := 1) (fz := false) (by kernel_rfl) (by kernel_rfl) rfl) ?_
      refine Runs.gnil ?_
      refine kS_nrm ?_
      refine Runs.ret ?_
      refine kB_ret ?_
      refine kS_ret ?_
      obtain rfl := Option.some.inj h
      exact ⟨Out.ret_ne, (by kernel_rfl)⟩
    | false =>
      replace h := ite_f hb_2 h
      refine Runs.cond_f (by kernel_rfl) ?_
      refine Runs.seq ?_
      refine Runs.ops ?_
      refine RunAt.chunk 3 [⟨.d (.int .i64 n_), []⟩, ⟨.d (.bool (decide (n_ < 128))), []⟩, ⟨.d (.bool (decide (n_ < 128))), []⟩] (by kernel_rfl) ?_
      refine RunAt.done (by kernel_rfl) ?_
      refine kS_nrm ?_
      cases hb_3 : ((decide (n_ < 128)) : Bool) with
      | true =>
        replace h := ite_t hb_3 h
        refine Runs.cond_t (by kernel_rfl) ?_
        refine Runs.seq ?_
        refine Runs.ops ?_
        refine RunAt.chunk 4 [⟨.d (.int .i64 n_), []⟩, ⟨.d (.int .u8 (IntKind.wrap .u8 n_)), []⟩, ⟨.ref [16] 0 0 (List.map (D.int .u8) ([(IntKind.wrap .u8 n_)] : List Int)).length 1, [([16], some (.arr (List.map (D.int .u8) ([(IntKind.wrap .u8 n_)] : List Int)) 0 false))]⟩, ⟨.ref [16] 0 0 (List.map (D.int .u8) ([(IntKind.wrap .u8 n_)] : List Int)).length 1, []⟩] (by kernel_rfl) ?_
        refine RunAt.done (by kernel_rfl) ?_
        refine kS_nrm ?_
        refine Runs.seq ?_
        refine Runs.gcons (frz_ref (e := (D.int .u8)) (l := ([(IntKind.wrap .u8 n_)] : List Int)) (id := [16]) (v := 0) (n := 1) (fz := false) (by kernel_rfl) (by kernel_rfl) rfl) ?_
        refine Runs.gnil ?_
        refine kS_nrm ?_
        refine Runs.ret ?_
        refine kB_ret ?_
        refine kS_ret ?_
        obtain rfl := Option.some.inj h
        exact ⟨Out.ret_ne, (by kernel_rfl)⟩
      | false =>
        replace h := ite_f hb_3 h
        refine Runs.cond_f (by kernel_rfl) ?_
        refine Runs.skip ?_
        refine kB_nrm ?_
        refine kS_nrm ?_
        refine Runs.seq ?_
        refine Runs.ops ?_
        refine RunAt.chunk 8 [⟨.d (.int .i64 n_), []⟩, ⟨.d (.int .i64 (shrI .i64 n_ 8)), []⟩, ⟨.d (.int .u8 (IntKind.wrap .u8 (shrI .i64 n_ 8))), []⟩, ⟨.d (.int .u8 (bitsOp .or .u8 (IntKind.wrap .u8 (shrI .i64 n_ 8)) 128)), []⟩, ⟨.d (.int .i64 n_), []⟩, ⟨.d (.int .u8 (IntKind.wrap .u8 n_)), []⟩, ⟨.ref [23] 0 0 (List.map (D.int .u8) ([(bitsOp .or .u8 (IntKind.wrap .u8 (shrI .i64 n_ 8)) 128), (IntKind.wrap .u8 n_)] : List Int)).length 1, [([23], some (.arr (List.map (D.int .u8) ([(bitsOp .or .u8 (IntKind.wrap .u8 (shrI .i64 n_ 8)) 128), (IntKind.wrap .u8 n_)] : List Int)) 0 false))]⟩, ⟨.ref [23] 0 0 (List.map (D.int .u8) ([(bitsOp .or .u8 (IntKind.wrap .u8 (shrI .i64 n_ 8)) 128), (IntKind.wrap .u8 n_)] : List Int)).length 1, []⟩] (by kernel_rfl) ?_
        refine RunAt.done (by kernel_rfl) ?_
        refine kS_nrm ?_
        refine Runs.seq ?_
        refine Runs.gcons (frz_ref (e := (D.int .u8)) (l := ([(bitsOp .or .u8 (IntKind.wrap .u8 (shrI .i64 n_ 8)) 128), (IntKind.wrap .u8 n_)] : List Int)) (id := [23]) (v := 0) (n := 1) (fz := false) (by kernel_rfl) (by kernel_rfl) rfl) ?_
        refine Runs.gnil ?_
        refine kS_nrm ?_
        refine Runs.ret ?_
        obtain rfl := Option.some.inj h
        exact ⟨Out.ret_ne, (by kernel_rfl)⟩
theorem index_Put_L (n_ : Int) (r : (List Int)) (h : index_Put n_ = some r) : L 16 [.d (.int .i64 n_)] = some (.d (.sl (List.map (D.int .u8) r)), [.d (.int .i64 n_)]) := by
  obtain ⟨p, ⟨hne, hf⟩, hr⟩ := index_Put_ok n_ r h
  obtain ⟨k, hk⟩ := run_of (F := F16) (args := [.d (.int .i64 n_)]) (ap := [.d (.int .i64 n_)]) (bx0 := updW (fun _ => none) []) rfl rfl (by kernel_rfl) ⟨p, ⟨hne, hf⟩, hr⟩
  exact lim_run (k := k) rfl hk
def index_Source_Left_Q (s_ : Source) (r : Int) (p : Out × St) : Prop := (∀ i, p.1 ≠ .exit i) ∧ finF F29 [.ptr [0] 0 0] p.2 = some (.d (.int .i64 r), [.ptr [.d (.sl (List.map (D.int .u8) s_.b)), .d (.int .i64 s_.e)]])
theorem index_Source_Left_ok (s_ : Source) (r : Int) (h : index_Source_Left s_ = some r) : Runs L F29.body ⟨tmOf [.ptr [0] 0 0] 0, updW (fun _ => none) [([0], some (.cells [.d (.sl (List.map (D.int .u8) s_.b)), .d (.int .i64 s_.e)] 0))]⟩ (index_Source_Left_Q s_ r) := by
  unfold index_Source_Left at h
  refine Runs.seq ?_
  refine Runs.ops ?_
  refine RunAt.chunk 1 [⟨.d (.int .i64 0), []⟩] (by kernel_rfl) ?_
  refine RunAt.done (by kernel_rfl) ?_
  refine kS_nrm ?_
  refine Runs.seq ?_
  refine Runs.seq ?_
  refine Runs.ops ?_
  refine RunAt.chunk 2 [⟨.ptr [0] 0 0, []⟩, ⟨.d (.bool false), []⟩] (by kernel_rfl) ?_
  refine RunAt.done (by kernel_rfl) ?_
  refine kS_nrm ?_
  refine Runs.cond_f (by kernel_rfl) ?_
  refine Runs.skip ?_
  refine kS_nrm ?_
  refine Runs.seq ?_
  refine Runs.ops ?_
  refine RunAt.chunk 4 [⟨.ptr [0] 0 0, []⟩, ⟨.ptr [0] 0 0, []⟩, ⟨.ptr [0] 0 0, []⟩, ⟨.d (.sl (List.map (D.int .u8) s_.b)), []⟩] (by kernel_rfl) ?_
  refine RunAt.cut (some 9) .lenL [] none [.d (.sl (List.map (D.int .u8) s_.b))] (.d (.int .i64 (s_.b.length : Int))) [] (by kernel_rfl) (by kernel_rfl) (by kernel_rfl) (cut_len _) ?_
  refine RunAt.chunk 1 [⟨.d (.int .i64 (s_.b.length : Int)), []⟩] (by kernel_rfl) ?_
  refine RunAt.done (by kernel_rfl) ?_
  refine kS_nrm ?_
  refine Runs.ret ?_
  obtain rfl := Option.some.inj h
  exact ⟨Out.ret_ne, (by kernel_rfl)⟩
theorem index_Source_Left_L (s_ : Source) (r : Int) (h : index_Source_Left s_ = some r) : L 29 [.ptr [.d (.sl (List.map (D.int .u8) s_.b)), .d (.int .i64 s_.e)]] = some (.d (.int .i64 r), [.ptr [.d (.sl (List.map (D.int .u8) s_.b)), .d (.int .i64 s_.e)]]) := by
  obtain ⟨p, ⟨hne, hf⟩, hr⟩ := index_Source_Left_ok s_ r h
  obtain ⟨k, hk⟩ := run_of (F := F29) (args := [.ptr [.d (.sl (List.map (D.int .u8) s_.b)), .d (.int .i64 s_.e)]]) (ap := [.ptr [0] 0 0]) (bx0 := updW (fun _ => none) [([0], some (.cells [.d (.sl (List.map (D.int .u8) s_.b)), .d (.int .i64 s_.e)] 0))]) rfl rfl (by kernel_rfl) ⟨p, ⟨hne, hf⟩, hr⟩
  exact lim_run (k := k) rfl hk
def index_Source_End_Q (s_ : Source) (r : (Int × Source)) (p : Out × St) : Prop := (∀ i, p.1 ≠ .exit i) ∧ finF F34 [.ptr [0] 0 0] p.2 = some (.d (.int .i64 r.1), [.ptr [.d (.sl (List.map (D.int .u8) r.2.b)), .d (.int .i64 r.2.e)]])
theorem index_Source_End_ok (s_ : Source) (r : (Int × Source)) (h : index_Source_End s_ = some r) : Runs L F34.body ⟨tmOf [.ptr [0] 0 0] 0, updW (fun _ => none) [([0], some (.cells [.d (.sl (List.map (D.int .u8) s_.b)), .d (.int .i64 s_.e)] 0))]⟩ (index_Source_End_Q s_ r) := by
  unfold index_Source_End at h
  refine Runs.seq ?_
  refine Runs.ops ?_
  refine RunAt.chunk 1 [⟨.d (.int .i64 0), []⟩] (by kernel_rfl) ?_
  refine RunAt.done (by kernel_rfl) ?_
  refine kS_nrm ?_
  refine Runs.seq ?_
  refine Runs.seq ?_
  refine Runs.ops ?_
  refine RunAt.chunk 1 [⟨.ptr [0] 0 0, []⟩] (by kernel_rfl) ?_
  obtain ⟨r_1, hr_1, h⟩ := bind_s h
  have hc_1 := index_Source_Left_L s_ r_1 hr_1
  refine RunAt.cut (some 4) (.callf 29) [] none [.ptr [0] 0 0] (.d (.int .i64 r_1)) [([0], some (.cells [.d (.sl (List.map (D.int .u8) s_.b)), .d (.int .i64 s_.e)] 0))] (by kernel_rfl) (by kernel_rfl) (by kernel_rfl) (cut_call (call_of (ws := []) (us := [([0], some (.cells [.d (.sl (List.map (D.int .u8) s_.b)), .d (.int .i64 s_.e)] 0))]) (by kernel_rfl) (by kernel_rfl) hc_1 (by kernel_rfl) (by kernel_rfl))) ?_
  refine RunAt.chunk 1 [⟨.d (.bool (decide (r_1 > 0))), []⟩] (by kernel_rfl) ?_
  refine RunAt.done (by kernel_rfl) ?_
  refine kS_nrm ?_
  cases hb_1 : ((decide (r_1 > 0)) : Bool) with
  | true =>
    replace h := ite_t hb_1 h
    refine Runs.cond_t (by kernel_rfl) ?_
    refine Runs.ops ?_
    refine RunAt.chunk 1 [⟨.ptr [0] 0 0, []⟩] (by kernel_rfl) ?_
    obtain ⟨r_2, hr_2, h⟩ := bind_s h
    have hc_2 := index_Source_Wrong_L s_ 3 r_2 hr_2
    refine RunAt.cut (some 7) (.callf 27) [] none [.ptr [0] 0 0, .d (.int .i64 3)] (.tup []) [([0], some (.cells [.d (.sl (List.map (D.int .u8) r_2.b)), .d (.int .i64 r_2.e)] 0))] (by kernel_rfl) (by kernel_rfl) (by kernel_rfl) (cut_call (call_of (ws := []) (us := [([0], some (.cells [.d (.sl (List.map (D.int .u8) r_2.b)), .d (.int .i64 r_2.e)] 0))]) (by kernel_rfl) (by kernel_rfl) hc_2 (by kernel_rfl) (by kernel_rfl))) ?_
    refine RunAt.done (by kernel_rfl) ?_
    refine kS_nrm ?_
    refine Runs.seq ?_
    refine Runs.ops ?_
    refine RunAt.chunk 1 [⟨.ptr [0] 0 0, []⟩] (by kernel_rfl) ?_
    obtain ⟨r_3, hr_3, h⟩ := bind_s h
    have hc_3 := index_Source_Err_L r_2 r_3 hr_3
    refine RunAt.cut (some 9) (.callf 28) [] none [.ptr [0] 0 0] (.d (.int .i64 r_3)) [([0], some (.cells [.d (.sl (List.map (D.int .u8) r_2.b)), .d (.int .i64 r_2.e)] 0))] (by kernel_rfl) (by kernel_rfl) (by kernel_rfl) (cut_call (call_of (ws := []) (us := [([0], some (.cells [.d (.sl (List.map (D.int .u8) r_2.b)), .d (.int .i64 r_2.e)] 0))]) (by kernel_rfl) (by kernel_rfl) hc_3 (by kernel_rfl) (by kernel_rfl))) ?_
    refine RunAt.chunk 1 [⟨.d (.int .i64 r_3), []⟩] (by kernel_rfl) ?_
    refine RunAt.done (by kernel_rfl) ?_
    refine kS_nrm ?_
    refine Runs.ret ?_
    obtain rfl := Option.some.inj h
    exact ⟨Out.ret_ne, (by kernel_rfl)⟩
  | false =>
    replace h := ite_f hb_1 h
    refine Runs.cond_f (by kernel_rfl) ?_
    refine Runs.skip ?_
    refine kS_nrm ?_
    refine Runs.seq ?_
    refine Runs.ops ?_
    refine RunAt.chunk 1 [⟨.ptr [0] 0 0, []⟩] (by kernel_rfl) ?_
    obtain ⟨r_4, hr_4, h⟩ := bind_s h
    have hc_4 := index_Source_Err_L s_ r_4 hr_4
    refine RunAt.cut (some 9) (.callf 28) [] none [.ptr [0] 0 0] (.d (.int .i64 r_4)) [([0], some (.cells [.d (.sl (List.map (D.int .u8) s_.b)), .d (.int .i64 s_.e)] 0))] (by kernel_rfl) (by kernel_rfl) (by kernel_rfl) (cut_call (call_of (ws := []) (us := [([0], some (.cells [.d (.sl (List.map (D.int .u8) s_.b)), .d (.int .i64 s_.e)] 0))]) (by kernel_rfl) (by kernel_rfl) hc_4 (by kernel_rfl) (by kernel_rfl))) ?_
    refine RunAt.chunk 1 [⟨.d (.int .i64 r_4), []⟩] (by kernel_rfl) ?_
    refine RunAt.done (by kernel_rfl) ?_
    refine kS_nrm ?_
    refine Runs.ret ?_
    obtain rfl := Option.some.inj h
    exact ⟨Out.ret_ne, (by kernel_rfl)⟩
theorem index_Source_End_L (s_ : Source) (r : (Int × Source)) (h : index_Source_End s_ = some r) : L 34 [.ptr [.d (.sl (List.map (D.int .u8) s_.b)), .d (.int .i64 s_.e)]] = some (.d (.int .i64 r.1), [.ptr [.d (.sl (List.map (D.int .u8) r.2.b)), .d (.int .i64 r.2.e)]]) := by
  obtain ⟨p, ⟨hne, hf⟩, hr⟩ := index_Source_End_ok s_ r h
  obtain ⟨k, hk⟩ := run_of (F := F34) (args := [.ptr [.d (.sl (List.map (D.int .u8) s_.b)), .d (.int .i64 s_.e)]]) (ap := [.ptr [0] 0 0]) (bx0 := updW (fun _ => none) [([0], some (.cells [.d (.sl (List.map (D.int .u8) s_.b)), .d (.int .i64 s_.e)] 0))]) rfl rfl (by kernel_rfl) ⟨p, ⟨hne, hf⟩, hr⟩
  exact lim_run (k := k) rfl hk
def hansomlaw19_awake_Q  (r : Bool) (p : Out × St) : Prop := (∀ i, p.1 ≠ .exit i) ∧ finF F15 [] p.2 = some (.d (.bool r), [])
theorem hansomlaw19_awake_ok  (r : Bool) (h : hansomlaw19_awake = some r) : Runs L F15.body ⟨tmOf [] 0, updW (fun _ => none) []⟩ (hansomlaw19_awake_Q  r) := by
  unfold hansomlaw19_awake at h
  refine Runs.seq ?_
  refine Runs.ops ?_
  refine RunAt.chunk 1 [⟨.d (.bool false), []⟩] (by kernel_rfl) ?_
  refine RunAt.done (by kernel_rfl) ?_
  refine kS_nrm ?_
  refine Runs.seq ?_
  refine Runs.ops ?_
  refine RunAt.chunk 1 [⟨.ref [4] 0 0 (List.map (D.int .u8) ([129, 44, 2, 65, 66] : List Int)).length 1, [([4], some (.arr (List.map (D.int .u8) ([129, 44, 2, 65, 66] : List Int)) 0 false))]⟩] (by kernel_rfl) ?_
  obtain ⟨r_1, hr_1, h⟩ := bind_s h
  have hc_1 := index_From_L ([129, 44, 2, 65, 66] : List Int) r_1 hr_1
  refine RunAt.cut (some 5) (.callf 25) [] none [.ref [4] 0 0 (List.map (D.int .u8) ([129, 44, 2, 65, 66] : List Int)).length 1] (.ptr [5] 0 0) [([4], some (.arr (List.map (D.int .u8) ([129, 44, 2, 65, 66] : List Int)) 0 true)), ([5], some (.cells [.d (.sl (List.map (D.int .u8) r_1.b)), .d (.int .i64 r_1.e)] 0))] (by kernel_rfl) (by kernel_rfl) (by kernel_rfl) (cut_call (call_of (ws := [([4], some (.arr (List.map (D.int .u8) ([129, 44, 2, 65, 66] : List Int)) 0 true))]) (us := [([4], some (.arr (List.map (D.int .u8) ([129, 44, 2, 65, 66] : List Int)) 0 true))]) (by kernel_rfl) (gives_cons (ws := [([4], some (.arr (List.map (D.int .u8) ([129, 44, 2, 65, 66] : List Int)) 0 true))]) (give_ref (e := (D.int .u8)) (l := ([129, 44, 2, 65, 66] : List Int)) (fz := false) (by kernel_rfl) (by kernel_rfl) rfl) gives_nil) hc_1 (by kernel_rfl) (by kernel_rfl))) ?_
  refine RunAt.chunk 1 [⟨.ptr [5] 0 0, []⟩] (by kernel_rfl) ?_
  refine RunAt.done (by kernel_rfl) ?_
  refine kS_nrm ?_
  refine Runs.seq ?_
  refine Runs.ops ?_
  refine RunAt.chunk 1 [⟨.ptr [5] 0 0, []⟩] (by kernel_rfl) ?_
  obtain ⟨r_2, hr_2, h⟩ := bind_s h
  have hc_2 := index_Source_Index_L r_1 r_2 hr_2
  refine RunAt.cut (some 7) (.callf 31) [] none [.ptr [5] 0 0] (.d (.int .i64 r_2.1)) [([5], some (.cells [.d (.sl (List.map (D.int .u8) r_2.2.b)), .d (.int .i64 r_2.2.e)] 0))] (by kernel_rfl) (by kernel_rfl) (by kernel_rfl) (cut_call (call_of (ws := []) (us := [([5], some (.cells [.d (.sl (List.map (D.int .u8) r_2.2.b)), .d (.int .i64 r_2.2.e)] 0))]) (by kernel_rfl) (by kernel_rfl) hc_2 (by kernel_rfl) (by kernel_rfl))) ?_
  refine RunAt.chunk 1 [⟨.ptr [5] 0 0, []⟩] (by kernel_rfl) ?_
  obtain ⟨r_3, hr_3, h⟩ := bind_s h
  have hc_3 := index_Source_Name_L r_2.2 r_3 hr_3
  refine RunAt.cut (some 9) (.callf 32) [] none [.ptr [5] 0 0] (.d (.str r_3.1)) [([5], some (.cells [.d (.sl (List.map (D.int .u8) r_3.2.b)), .d (.int .i64 r_3.2.e)] 0))] (by kernel_rfl) (by kernel_rfl) (by kernel_rfl) (cut_call (call_of (ws := []) (us := [([5], some (.cells [.d (.sl (List.map (D.int .u8) r_3.2.b)), .d (.int .i64 r_3.2.e)] 0))]) (by kernel_rfl) (by kernel_rfl) hc_3 (by kernel_rfl) (by kernel_rfl))) ?_
  refine RunAt.chunk 2 [⟨.d (.int .i64 r_2.1), []⟩, ⟨.d (.str r_3.1), []⟩] (by kernel_rfl) ?_
  refine RunAt.done (by kernel_rfl) ?_
  refine kS_nrm ?_
  refine Runs.seq ?_
  refine Runs.ops ?_
  obtain ⟨r_4, hr_4, h⟩ := bind_s h
  have hc_4 := index_Put_L 300 r_4 hr_4
  refine RunAt.cut (some 10) (.callf 16) [] none [.d (.int .i64 300)] (.d (.sl (List.map (D.int .u8) r_4))) [] (by kernel_rfl) (by kernel_rfl) (by kernel_rfl) (cut_call (call_of (ws := []) (us := []) (by kernel_rfl) (by kernel_rfl) hc_4 (by kernel_rfl) (by kernel_rfl))) ?_
  refine RunAt.cut (some 11) .bytesStr [] none [.d (.sl (List.map (D.int .u8) r_4))] (.d (.str (b2s r_4))) [] (by kernel_rfl) (by kernel_rfl) (by kernel_rfl) (cut_bs _) ?_
  refine RunAt.chunk 2 [⟨.d (.bool ((b2s r_4) == ([129, 44] : List UInt8))), []⟩, ⟨.d (.bool ((b2s r_4) == ([129, 44] : List UInt8))), []⟩] (by kernel_rfl) ?_
  cases hb_1 : (((b2s r_4) == ([129, 44] : List UInt8)) : Bool) with
  | true =>
    replace h := ite_t hb_1 h
    refine RunAt.chunk 4 [⟨.d (.int .i64 r_2.1), []⟩, ⟨.d (.bool (r_2.1 == 300)), []⟩, ⟨.d (.bool (r_2.1 == 300)), []⟩, ⟨.d (.bool (r_2.1 == 300)), []⟩] (by kernel_rfl) ?_
    cases hb_2 : ((r_2.1 == 300) : Bool) with
    | true =>
      replace h := ite_t hb_2 h
      refine RunAt.chunk 4 [⟨.d (.str r_3.1), []⟩, ⟨.d (.bool (r_3.1 == ([65, 66] : List UInt8))), []⟩, ⟨.d (.bool (r_3.1 == ([65, 66] : List UInt8))), []⟩, ⟨.d (.bool (r_3.1 == ([65, 66] : List UInt8))), []⟩] (by kernel_rfl) ?_
      cases hb_3 : ((r_3.1 == ([65, 66] : List UInt8)) : Bool) with
      | true =>
        replace h := ite_t hb_3 h
        refine RunAt.chunk 1 [⟨.ptr [5] 0 0, []⟩] (by kernel_rfl) ?_
        obtain ⟨r_5, hr_5, h⟩ := bind_s h
        have hc_5 := index_Source_End_L r_3.2 r_5 hr_5
        refine RunAt.cut (some 23) (.callf 34) [] none [.ptr [5] 0 0] (.d (.int .i64 r_5.1)) [([5], some (.cells [.d (.sl (List.map (D.int .u8) r_5.2.b)), .d (.int .i64 r_5.2.e)] 0))] (by kernel_rfl) (by kernel_rfl) (by kernel_rfl) (cut_call (call_of (ws := []) (us := [([5], some (.cells [.d (.sl (List.map (D.int .u8) r_5.2.b)), .d (.int .i64 r_5.2.e)] 0))]) (by kernel_rfl) (by kernel_rfl) hc_5 (by kernel_rfl) (by kernel_rfl))) ?_
        refine RunAt.chunk 3 [⟨.d (.bool (r_5.1 == 0)), []⟩, ⟨.d (.bool (r_5.1 == 0)), []⟩, ⟨.d (.bool (r_5.1 == 0)), []⟩] (by kernel_rfl) ?_
        refine RunAt.done (by kernel_rfl) ?_
        refine kS_nrm ?_
        refine Runs.ret ?_
        obtain rfl := Option.some.inj h
        exact ⟨Out.ret_ne, (by kernel_rfl)⟩
      | false =>
        replace h := ite_f hb_3 h
        refine RunAt.chunk 5 [⟨.tup [], []⟩, ⟨.tup [], []⟩, ⟨.tup [], []⟩, ⟨.d (.bool false), []⟩, ⟨.d (.bool false), []⟩] (by kernel_rfl) ?_
        refine RunAt.done (by kernel_rfl) ?_
        refine kS_nrm ?_
        refine Runs.ret ?_
        obtain rfl := Option.some.inj h
        exact ⟨Out.ret_ne, (by kernel_rfl)⟩
    | false =>
      replace h := ite_f hb_2 h
      refine RunAt.chunk 9 [⟨.tup [], []⟩, ⟨.tup [], []⟩, ⟨.d (.bool false), []⟩, ⟨.d (.bool false), []⟩, ⟨.tup [], []⟩, ⟨.tup [], []⟩, ⟨.tup [], []⟩, ⟨.d (.bool false), []⟩, ⟨.d (.bool false), []⟩] (by kernel_rfl) ?_
      refine RunAt.done (by kernel_rfl) ?_
      refine kS_nrm ?_
      refine Runs.ret ?_
      obtain rfl := Option.some.inj h
      exact ⟨Out.ret_ne, (by kernel_rfl)⟩
  | false =>
    replace h := ite_f hb_1 h
    refine RunAt.chunk 13 [⟨.tup [], []⟩, ⟨.tup [], []⟩, ⟨.d (.bool false), []⟩, ⟨.d (.bool false), []⟩, ⟨.tup [], []⟩, ⟨.tup [], []⟩, ⟨.d (.bool false), []⟩, ⟨.d (.bool false), []⟩, ⟨.tup [], []⟩, ⟨.tup [], []⟩, ⟨.tup [], []⟩, ⟨.d (.bool false), []⟩, ⟨.d (.bool false), []⟩] (by kernel_rfl) ?_
    refine RunAt.done (by kernel_rfl) ?_
    refine kS_nrm ?_
    refine Runs.ret ?_
    obtain rfl := Option.some.inj h
    exact ⟨Out.ret_ne, (by kernel_rfl)⟩
theorem hansomlaw19_awake_L  (r : Bool) (h : hansomlaw19_awake = some r) : L 15 [] = some (.d (.bool r), []) := by
  obtain ⟨p, ⟨hne, hf⟩, hr⟩ := hansomlaw19_awake_ok  r h
  obtain ⟨k, hk⟩ := run_of (F := F15) (args := []) (ap := []) (bx0 := updW (fun _ => none) []) rfl rfl (by kernel_rfl) ⟨p, ⟨hne, hf⟩, hr⟩
  exact lim_run (k := k) rfl hk
def bits_Word_Q (low_ : Int) (high_ : Int) (r : Int) (p : Out × St) : Prop := (∀ i, p.1 ≠ .exit i) ∧ finF F69 [.d (.int .u8 low_), .d (.int .u8 high_)] p.2 = some (.d (.int .u16 r), [.d (.int .u8 low_), .d (.int .u8 high_)])
theorem bits_Word_ok (low_ : Int) (high_ : Int) (r : Int) (h : bits_Word low_ high_ = some r) : Runs L F69.body ⟨tmOf [.d (.int .u8 low_), .d (.int .u8 high_)] 0, updW (fun _ => none) []⟩ (bits_Word_Q low_ high_ r) := by
  unfold bits_Word at h
  refine Runs.seq ?_
  refine Runs.ops ?_
  refine RunAt.chunk 1 [⟨.d (.int .u16 0), []⟩] (by kernel_rfl) ?_
  refine RunAt.done (by kernel_rfl) ?_
  refine kS_nrm ?_
  refine Runs.seq ?_
  refine Runs.ops ?_
  refine RunAt.chunk 7 [⟨.d (.int .u8 low_), []⟩, ⟨.d (.int .u16 (IntKind.wrap .u16 low_)), []⟩, ⟨.d (.int .u8 high_), []⟩, ⟨.d (.int .u16 (IntKind.wrap .u16 high_)), []⟩, ⟨.d (.int .u16 (shlI .u16 (IntKind.wrap .u16 high_) 8)), []⟩, ⟨.d (.int .u16 (bitsOp .or .u16 (IntKind.wrap .u16 low_) (shlI .u16 (IntKind.wrap .u16 high_) 8))), []⟩, ⟨.d (.int .u16 (bitsOp .or .u16 (IntKind.wrap .u16 low_) (shlI .u16 (IntKind.wrap .u16 high_) 8))), []⟩] (by kernel_rfl) ?_
  refine RunAt.done (by kernel_rfl) ?_
  refine kS_nrm ?_
  refine Runs.ret ?_
  obtain rfl := Option.some.inj h
  exact ⟨Out.ret_ne, (by kernel_rfl)⟩
theorem bits_Word_L (low_ : Int) (high_ : Int) (r : Int) (h : bits_Word low_ high_ = some r) : L 69 [.d (.int .u8 low_), .d (.int .u8 high_)] = some (.d (.int .u16 r), [.d (.int .u8 low_), .d (.int .u8 high_)]) := by
  obtain ⟨p, ⟨hne, hf⟩, hr⟩ := bits_Word_ok low_ high_ r h
  obtain ⟨k, hk⟩ := run_of (F := F69) (args := [.d (.int .u8 low_), .d (.int .u8 high_)]) (ap := [.d (.int .u8 low_), .d (.int .u8 high_)]) (bx0 := updW (fun _ => none) []) rfl rfl (by kernel_rfl) ⟨p, ⟨hne, hf⟩, hr⟩
  exact lim_run (k := k) rfl hk
def index_Source_Word_Q (s_ : Source) (r : (Int × Source)) (p : Out × St) : Prop := (∀ i, p.1 ≠ .exit i) ∧ finF F30 [.ptr [0] 0 0] p.2 = some (.d (.int .u16 r.1), [.ptr [.d (.sl (List.map (D.int .u8) r.2.b)), .d (.int .i64 r.2.e)]])
theorem index_Source_Word_ok (s_ : Source) (r : (Int × Source)) (h : index_Source_Word s_ = some r) : Runs L F30.body ⟨tmOf [.ptr [0] 0 0] 0, updW (fun _ => none) [([0], some (.cells [.d (.sl (List.map (D.int .u8) s_.b)), .d (.int .i64 s_.e)] 0))]⟩ (index_Source_Word_Q s_ r) := by
  unfold index_Source_Word at h
  refine Runs.seq ?_
  refine Runs.ops ?_
  refine RunAt.chunk 1 [⟨.d (.int .u16 0), []⟩] (by kernel_rfl) ?_
  refine RunAt.done (by kernel_rfl) ?_
  refine kS_nrm ?_
  refine Runs.seq ?_
  refine Runs.seq ?_
  refine Runs.ops ?_
  refine RunAt.chunk 1 [⟨.ptr [0] 0 0, []⟩] (by kernel_rfl) ?_
  obtain ⟨r_1, hr_1, h⟩ := bind_s h
  have hc_1 := index_Source_Take_L s_ 2 r_1 hr_1
  refine RunAt.cut (some 5) (.callf 26) [] none [.ptr [0] 0 0, .d (.int .i64 2)] (.d (.sl (List.map (D.int .u8) r_1.1))) [([0], some (.cells [.d (.sl (List.map (D.int .u8) r_1.2.b)), .d (.int .i64 r_1.2.e)] 0))] (by kernel_rfl) (by kernel_rfl) (by kernel_rfl) (cut_call (call_of (ws := []) (us := [([0], some (.cells [.d (.sl (List.map (D.int .u8) r_1.2.b)), .d (.int .i64 r_1.2.e)] 0))]) (by kernel_rfl) (by kernel_rfl) hc_1 (by kernel_rfl) (by kernel_rfl))) ?_
  refine RunAt.chunk 1 [⟨.d (.sl (List.map (D.int .u8) r_1.1)), []⟩] (by kernel_rfl) ?_
  refine RunAt.done (by kernel_rfl) ?_
  refine kS_nrm ?_
  refine Runs.seq ?_
  refine Runs.ops ?_
  refine RunAt.chunk 1 [⟨.d (.sl (List.map (D.int .u8) r_1.1)), []⟩] (by kernel_rfl) ?_
  refine RunAt.cut (some 7) .lenL [] none [.d (.sl (List.map (D.int .u8) r_1.1))] (.d (.int .i64 (r_1.1.length : Int))) [] (by kernel_rfl) (by kernel_rfl) (by kernel_rfl) (cut_len _) ?_
  refine RunAt.chunk 1 [⟨.d (.bool ((r_1.1.length : Int) == 2)), []⟩] (by kernel_rfl) ?_
  refine RunAt.done (by kernel_rfl) ?_
  refine kS_nrm ?_
  cases hb_1 : (((r_1.1.length : Int) == 2) : Bool) with
  | true =>
    replace h := ite_t hb_1 h
    refine Runs.cond_t (by kernel_rfl) ?_
    refine Runs.seq ?_
    refine Runs.ops ?_
    refine RunAt.chunk 1 [⟨.d (.sl (List.map (D.int .u8) r_1.1)), []⟩] (by kernel_rfl) ?_
    obtain ⟨z_1, hz_1, h⟩ := bind_s h
    refine RunAt.cut (some 10) (.iaddrS 1) [] none [.d (.sl (List.map (D.int .u8) r_1.1)), .d (.int .i64 0)] (.elt (.int .u8 z_1) 0) [] (by kernel_rfl) (by kernel_rfl) (by kernel_rfl) (cut_at hz_1 (fun _ => rfl)) ?_
    refine RunAt.chunk 2 [⟨.d (.int .u8 z_1), []⟩, ⟨.d (.sl (List.map (D.int .u8) r_1.1)), []⟩] (by kernel_rfl) ?_
    obtain ⟨z_2, hz_2, h⟩ := bind_s h
    refine RunAt.cut (some 13) (.iaddrS 1) [] none [.d (.sl (List.map (D.int .u8) r_1.1)), .d (.int .i64 1)] (.elt (.int .u8 z_2) 0) [] (by kernel_rfl) (by kernel_rfl) (by kernel_rfl) (cut_at hz_2 (fun _ => rfl)) ?_
    refine RunAt.chunk 1 [⟨.d (.int .u8 z_2), []⟩] (by kernel_rfl) ?_
    obtain ⟨r_2, hr_2, h⟩ := bind_s h
    have hc_2 := bits_Word_L z_1 z_2 r_2 hr_2
    refine RunAt.cut (some 15) (.callf 69) [] none [.d (.int .u8 z_1), .d (.int .u8 z_2)] (.d (.int .u16 r_2)) [] (by kernel_rfl) (by kernel_rfl) (by kernel_rfl) (cut_call (call_of (ws := []) (us := []) (by kernel_rfl) (by kernel_rfl) hc_2 (by kernel_rfl) (by kernel_rfl))) ?_
    refine RunAt.chunk 1 [⟨.d (.int .u16 r_2), []⟩] (by kernel_rfl) ?_
    refine RunAt.done (by kernel_rfl) ?_
    refine kS_nrm ?_
    refine Runs.ret ?_
    refine kS_ret ?_
    obtain rfl := Option.some.inj h
    exact ⟨Out.ret_ne, (by kernel_rfl)⟩
  | false =>
    replace h := ite_f hb_1 h
    refine Runs.cond_f (by kernel_rfl) ?_
    refine Runs.skip ?_
    refine kS_nrm ?_
    refine Runs.seq ?_
    refine Runs.ops ?_
    refine RunAt.chunk 1 [⟨.d (.int .u16 0), []⟩] (by kernel_rfl) ?_
    refine RunAt.done (by kernel_rfl) ?_
    refine kS_nrm ?_
    refine Runs.ret ?_
    obtain rfl := Option.some.inj h
    exact ⟨Out.ret_ne, (by kernel_rfl)⟩
theorem index_Source_Word_L (s_ : Source) (r : (Int × Source)) (h : index_Source_Word s_ = some r) : L 30 [.ptr [.d (.sl (List.map (D.int .u8) s_.b)), .d (.int .i64 s_.e)]] = some (.d (.int .u16 r.1), [.ptr [.d (.sl (List.map (D.int .u8) r.2.b)), .d (.int .i64 r.2.e)]]) := by
  obtain ⟨p, ⟨hne, hf⟩, hr⟩ := index_Source_Word_ok s_ r h
  obtain ⟨k, hk⟩ := run_of (F := F30) (args := [.ptr [.d (.sl (List.map (D.int .u8) s_.b)), .d (.int .i64 s_.e)]]) (ap := [.ptr [0] 0 0]) (bx0 := updW (fun _ => none) [([0], some (.cells [.d (.sl (List.map (D.int .u8) s_.b)), .d (.int .i64 s_.e)] 0))]) rfl rfl (by kernel_rfl) ⟨p, ⟨hne, hf⟩, hr⟩
  exact lim_run (k := k) rfl hk
def index_Source_Long_h29 (s0 : Source) (out5 : Int) (t26 : (List Int)) (t27 : Int) (t28 : Int) : St := ⟨tab [(5, .d (.int .u32 out5)), (26, .d (.sl (List.map (D.int .u8) t26))), (27, .d (.int .i64 t27)), (28, .d (.int .i64 t28))], tabB [([0], some (.cells [.d (.sl (List.map (D.int .u8) s0.b)), .d (.int .i64 s0.e)] 0))]⟩
def index_Source_Long_h42 (s0 : Source) (out5 : Int) : St := ⟨tab [(5, .d (.int .u32 out5))], tabB [([0], some (.cells [.d (.sl (List.map (D.int .u8) s0.b)), .d (.int .i64 s0.e)] 0))]⟩
def index_Source_Long_Q (s_ : Source) (r : (Int × Source)) (p : Out × St) : Prop := (∀ i, p.1 ≠ .exit i) ∧ finF F33 [.ptr [0] 0 0] p.2 = some (.d (.int .u32 r.1), [.ptr [.d (.sl (List.map (D.int .u8) r.2.b)), .d (.int .i64 r.2.e)]])
def index_Source_Long_P29 (s_ : Source) (s0 : Source) (t26 : (List Int)) (t27 : Int) (e : Int) (p : Out × St) : Prop := p.1 = .exit 1 ∧ ∃ g : Unit, Canon [] [5] [[0]] p.2 (index_Source_Long_h42 s0 e)
theorem index_Source_Long_l29_ok (s_ : Source) (s0 : Source) (out5 : Int) (t26 : (List Int)) (t27 : Int) (t28 : Int) (r : (Lp (Int × Int) Int)) (h : index_Source_Long_l29 s0 out5 t26 t27 t28 = some r) : Runs L F33l29 (index_Source_Long_h29 s0 out5 t26 t27 t28) (LQ [] [5, 26, 27, 28] [[0]] (fun (x : (Int × Int)) (g : Unit) => index_Source_Long_h29 s0 x.1 t26 t27 x.2) (index_Source_Long_P29 s_ s0 t26 t27) r) := by
  unfold index_Source_Long_l29 at h
  refine Runs.seq ?_
  refine Runs.ops ?_
  refine RunAt.chunk 1 [⟨.d (.bool (decide (t28 < t27))), []⟩] (by kernel_rfl) ?_
  refine RunAt.done (by kernel_rfl) ?_
  refine kS_nrm ?_
  refine Runs.seq ?_
  cases hb_3 : ((decide (t28 < t27)) : Bool) with
  | true =>
    replace h := ite_t hb_3 h
    refine Runs.cond_t (by kernel_rfl) ?_
    refine Runs.skip ?_
    refine kS_nrm ?_
    refine Runs.seq ?_
    refine Runs.block ?_
    refine Runs.seq ?_
    refine Runs.ops ?_
    refine RunAt.chunk 1 [⟨.d (.int .i64 t28), []⟩] (by kernel_rfl) ?_
    obtain ⟨z_1, hz_1, h⟩ := bind_s h
    refine RunAt.cut (some 31) (.iaddrS 1) [] none [.d (.sl (List.map (D.int .u8) t26)), .d (.int .i64 t28)] (.elt (.int .u8 z_1) 0) [] (by kernel_rfl) (by kernel_rfl) (by kernel_rfl) (cut_at hz_1 (fun _ => rfl)) ?_
    refine RunAt.chunk 3 [⟨.d (.int .u8 z_1), []⟩, ⟨.d (.int .i64 t28), []⟩, ⟨.d (.int .u8 z_1), []⟩] (by kernel_rfl) ?_
    refine RunAt.done (by kernel_rfl) ?_
    refine kS_nrm ?_
    refine Runs.ops ?_
    refine RunAt.chunk 5 [⟨.d (.int .u32 out5), []⟩, ⟨.d (.int .u8 z_1), []⟩, ⟨.d (.int .u32 (IntKind.wrap .u32 z_1)), []⟩, ⟨.d (.int .i64 t28), []⟩, ⟨.d (.int .i64 (IntKind.wrap .i64 (8 * t28))), []⟩] (by kernel_rfl) ?_
    obtain ⟨z_2, hz_2, h⟩ := bind_s h
    refine RunAt.cut (some 38) (.bin .shl) [] none [.d (.int .u32 (IntKind.wrap .u32 z_1)), .d (.int .i64 (IntKind.wrap .i64 (8 * t28)))] (.d (.int .u32 z_2)) [] (by kernel_rfl) (by kernel_rfl) (by kernel_rfl) (cut_shl hz_2) ?_
    refine RunAt.chunk 2 [⟨.d (.int .u32 (bitsOp .or .u32 out5 z_2)), []⟩, ⟨.d (.int .u32 (bitsOp .or .u32 out5 z_2)), []⟩] (by kernel_rfl) ?_
    refine RunAt.done (by kernel_rfl) ?_
    refine kB_nrm ?_
    refine kS_nrm ?_
    refine Runs.ops ?_
    refine RunAt.chunk 2 [⟨.d (.int .i64 (IntKind.wrap .i64 (t28 + 1))), []⟩, ⟨.d (.int .i64 (IntKind.wrap .i64 (t28 + 1))), []⟩] (by kernel_rfl) ?_
    refine RunAt.done (by kernel_rfl) ?_
    obtain rfl := Option.some.inj h
    exact ⟨rfl, (), (Canon.nil (by kernel_rfl))⟩
  | false =>
    replace h := ite_f hb_3 h
    refine Runs.cond_f (by kernel_rfl) ?_
    refine Runs.exit ?_
    refine kS_exit ?_
    obtain rfl := Option.some.inj h
    exact ⟨nofun, rfl, (), (Canon.nil (by kernel_rfl))⟩
theorem index_Source_Long_ok (s_ : Source) (r : (Int × Source)) (h : index_Source_Long s_ = some r) : Runs L F33.body ⟨tmOf [.ptr [0] 0 0] 0, updW (fun _ => none) [([0], some (.cells [.d (.sl (List.map (D.int .u8) s_.b)), .d (.int .i64 s_.e)] 0))]⟩ (index_Source_Long_Q s_ r) := by
  unfold index_Source_Long at h
  refine Runs.seq ?_
  refine Runs.ops ?_
  refine RunAt.chunk 1 [⟨.d (.int .u32 0), []⟩] (by kernel_rfl) ?_
  refine RunAt.done (by kernel_rfl) ?_
  refine kS_nrm ?_
  refine Runs.seq ?_
  refine Runs.ops ?_
  refine RunAt.chunk 1 [⟨.ptr [0] 0 0, []⟩] (by kernel_rfl) ?_
  obtain ⟨r_1, hr_1, h⟩ := bind_s h
  have hc_1 := index_Source_Byte_L s_ r_1 hr_1
  refine RunAt.cut (some 9) (.callf 35) [] none [.ptr [0] 0 0] (.d (.int .u8 r_1.1)) [([0], some (.cells [.d (.sl (List.map (D.int .u8) r_1.2.b)), .d (.int .i64 r_1.2.e)] 0))] (by kernel_rfl) (by kernel_rfl) (by kernel_rfl) (cut_call (call_of (ws := []) (us := [([0], some (.cells [.d (.sl (List.map (D.int .u8) r_1.2.b)), .d (.int .i64 r_1.2.e)] 0))]) (by kernel_rfl) (by kernel_rfl) hc_1 (by kernel_rfl) (by kernel_rfl))) ?_
  refine RunAt.chunk 1 [⟨.d (.int .u8 r_1.1), []⟩] (by kernel_rfl) ?_
  refine RunAt.done (by kernel_rfl) ?_
  refine kS_nrm ?_
  refine Runs.seq ?_
  refine Runs.ops ?_
  refine RunAt.chunk 5 [⟨.top, []⟩, ⟨.top, []⟩, ⟨.d (.int .u8 r_1.1), []⟩, ⟨.d (.int .i64 (lkpI [(129, 2), (132, 3), (136, 4)] r_1.1)), []⟩, ⟨.d (.int .i64 (lkpI [(129, 2), (132, 3), (136, 4)] r_1.1)), []⟩] (by kernel_rfl) ?_
  refine RunAt.done (by kernel_rfl) ?_
  refine kS_nrm ?_
  refine Runs.seq ?_
  refine Runs.block ?_
  refine Runs.seq ?_
  refine Runs.ops ?_
  refine RunAt.chunk 3 [⟨.d (.int .u8 r_1.1), []⟩, ⟨.d (.bool (decide (r_1.1 ≤ 128))), []⟩, ⟨.d (.bool (decide (r_1.1 ≤ 128))), []⟩] (by kernel_rfl) ?_
  refine RunAt.done (by kernel_rfl) ?_
  refine kS_nrm ?_
  cases hb_1 : ((decide (r_1.1 ≤ 128)) : Bool) with
  | true =>
    replace h := ite_t hb_1 h
    refine Runs.cond_t (by kernel_rfl) ?_
    refine Runs.seq ?_
    refine Runs.ops ?_
    refine RunAt.chunk 3 [⟨.d (.int .u8 r_1.1), []⟩, ⟨.d (.int .u32 (IntKind.wrap .u32 r_1.1)), []⟩, ⟨.d (.int .u32 (IntKind.wrap .u32 r_1.1)), []⟩] (by kernel_rfl) ?_
    refine RunAt.done (by kernel_rfl) ?_
    refine kS_nrm ?_
    refine Runs.ret ?_
    refine kB_ret ?_
    refine kS_ret ?_
    obtain rfl := Option.some.inj h
    exact ⟨Out.ret_ne, (by kernel_rfl)⟩
  | false =>
    replace h := ite_f hb_1 h
    refine Runs.cond_f (by kernel_rfl) ?_
    refine Runs.seq ?_
    refine Runs.ops ?_
    refine RunAt.chunk 3 [⟨.d (.int .i64 (lkpI [(129, 2), (132, 3), (136, 4)] r_1.1)), []⟩, ⟨.d (.bool ((lkpI [(129, 2), (132, 3), (136, 4)] r_1.1) == 0)), []⟩, ⟨.d (.bool ((lkpI [(129, 2), (132, 3), (136, 4)] r_1.1) == 0)), []⟩] (by kernel_rfl) ?_
    refine RunAt.done (by kernel_rfl) ?_
    refine kS_nrm ?_
    cases hb_2 : (((lkpI [(129, 2), (132, 3), (136, 4)] r_1.1) == 0) : Bool) with
    | true =>
      replace h := ite_t hb_2 h
      refine Runs.cond_t (by kernel_rfl) ?_
      refine Runs.seq ?_
      refine Runs.ops ?_
      refine RunAt.chunk 1 [⟨.ptr [0] 0 0, []⟩] (by kernel_rfl) ?_
      obtain ⟨r_2, hr_2, h⟩ := bind_s h
      have hc_2 := index_Source_Wrong_L r_1.2 3 r_2 hr_2
      refine RunAt.cut (some 23) (.callf 27) [] none [.ptr [0] 0 0, .d (.int .i64 3)] (.tup []) [([0], some (.cells [.d (.sl (List.map (D.int .u8) r_2.b)), .d (.int .i64 r_2.e)] 0))] (by kernel_rfl) (by kernel_rfl) (by kernel_rfl) (cut_call (call_of (ws := []) (us := [([0], some (.cells [.d (.sl (List.map (D.int .u8) r_2.b)), .d (.int .i64 r_2.e)] 0))]) (by kernel_rfl) (by kernel_rfl) hc_2 (by kernel_rfl) (by kernel_rfl))) ?_
      refine RunAt.done (by kernel_rfl) ?_
      refine kS_nrm ?_
      refine Runs.seq ?_
      refine Runs.ops ?_
      refine RunAt.chunk 1 [⟨.d (.int .u32 0), []⟩] (by kernel_rfl) ?_
      refine RunAt.done (by kernel_rfl) ?_
      refine kS_nrm ?_
      refine Runs.ret ?_
      refine kB_ret ?_
      refine kS_ret ?_
      obtain rfl := Option.some.inj h
      exact ⟨Out.ret_ne, (by kernel_rfl)⟩
    | false =>
      replace h := ite_f hb_2 h
      refine Runs.cond_f (by kernel_rfl) ?_
      refine Runs.skip ?_
      refine kB_nrm ?_
      refine kS_nrm ?_
      refine Runs.seq ?_
      refine Runs.ops ?_
      refine RunAt.chunk 1 [⟨.d (.int .u32 0), []⟩] (by kernel_rfl) ?_
      refine RunAt.done (by kernel_rfl) ?_
      refine kS_nrm ?_
      refine Runs.seq ?_
      refine Runs.seq ?_
      refine Runs.ops ?_
      refine RunAt.chunk 2 [⟨.ptr [0] 0 0, []⟩, ⟨.d (.int .i64 (lkpI [(129, 2), (132, 3), (136, 4)] r_1.1)), []⟩] (by kernel_rfl) ?_
      obtain ⟨r_3, hr_3, h⟩ := bind_s h
      have hc_3 := index_Source_Take_L r_1.2 (lkpI [(129, 2), (132, 3), (136, 4)] r_1.1) r_3 hr_3
      refine RunAt.cut (some 26) (.callf 26) [] none [.ptr [0] 0 0, .d (.int .i64 (lkpI [(129, 2), (132, 3), (136, 4)] r_1.1))] (.d (.sl (List.map (D.int .u8) r_3.1))) [([0], some (.cells [.d (.sl (List.map (D.int .u8) r_3.2.b)), .d (.int .i64 r_3.2.e)] 0))] (by kernel_rfl) (by kernel_rfl) (by kernel_rfl) (cut_call (call_of (ws := []) (us := [([0], some (.cells [.d (.sl (List.map (D.int .u8) r_3.2.b)), .d (.int .i64 r_3.2.e)] 0))]) (by kernel_rfl) (by kernel_rfl) hc_3 (by kernel_rfl) (by kernel_rfl))) ?_
      refine RunAt.cut (some 27) .lenL [] none [.d (.sl (List.map (D.int .u8) r_3.1))] (.d (.int .i64 (r_3.1.length : Int))) [] (by kernel_rfl) (by kernel_rfl) (by kernel_rfl) (cut_len _) ?_
      refine RunAt.chunk 1 [⟨.d (.int .i64 0), []⟩] (by kernel_rfl) ?_
      refine RunAt.done (by kernel_rfl) ?_
      refine kS_nrm ?_
      refine Runs.block ?_
      obtain ⟨e_1, he_1, h⟩ := bind_s h
      refine Runs.loop (fun x : (Int × Int) => index_Source_Long_l29 r_3.2 x.1 r_3.1 (r_3.1.length : Int) x.2) (fun (x : (Int × Int)) (g : Unit) => index_Source_Long_h29 r_3.2 x.1 r_3.1 (r_3.1.length : Int) x.2) (index_Source_Long_P29 s_ r_3.2 r_3.1 (r_3.1.length : Int)) (fun x g r hr => index_Source_Long_l29_ok s_ r_3.2 x.1 r_3.1 (r_3.1.length : Int) x.2  r hr) () he_1 (Canon.nil (by kernel_rfl)) ?_
      rintro ⟨o, s⟩ hp
      obtain ⟨ho, g_1, hk_1⟩ := hp
      have ho' : o = .exit 1 := ho
      subst ho'
      refine kB_hit ?_
      refine kS_nrm ?_
      refine Runs.canon _ hk_1 ?_
      refine Runs.seq ?_
      refine Runs.ops ?_
      refine RunAt.chunk 2 [⟨.d (.int .u32 e_1), []⟩, ⟨.d (.int .u32 e_1), []⟩] (by kernel_rfl) ?_
      refine RunAt.done (by kernel_rfl) ?_
      refine kS_nrm ?_
      refine Runs.ret ?_
      obtain rfl := Option.some.inj h
      exact ⟨Out.ret_ne, (by kernel_rfl)⟩
theorem index_Source_Long_L (s_ : Source) (r : (Int × Source)) (h : index_Source_Long s_ = some r) : L 33 [.ptr [.d (.sl (List.map (D.int .u8) s_.b)), .d (.int .i64 s_.e)]] = some (.d (.int .u32 r.1), [.ptr [.d (.sl (List.map (D.int .u8) r.2.b)), .d (.int .i64 r.2.e)]]) := by
  obtain ⟨p, ⟨hne, hf⟩, hr⟩ := index_Source_Long_ok s_ r h
  obtain ⟨k, hk⟩ := run_of (F := F33) (args := [.ptr [.d (.sl (List.map (D.int .u8) s_.b)), .d (.int .i64 s_.e)]]) (ap := [.ptr [0] 0 0]) (bx0 := updW (fun _ => none) [([0], some (.cells [.d (.sl (List.map (D.int .u8) s_.b)), .d (.int .i64 s_.e)] 0))]) rfl rfl (by kernel_rfl) ⟨p, ⟨hne, hf⟩, hr⟩
  exact lim_run (k := k) rfl hk
def index_Source_Wrong_nil_Q (e_ : Int) (r : Unit) (p : Out × St) : Prop := (∀ i, p.1 ≠ .exit i) ∧ finF F27 [.nilp, .d (.int .i64 e_)] p.2 = some (.tup [], [.nilp, .d (.int .i64 e_)])
theorem index_Source_Wrong_nil_ok (e_ : Int) (r : Unit) (h : index_Source_Wrong_nil e_ = some r) : Runs L F27.body ⟨tmOf [.nilp, .d (.int .i64 e_)] 0, updW (fun _ => none) []⟩ (index_Source_Wrong_nil_Q e_ r) := by
  unfold index_Source_Wrong_nil at h
  refine Runs.seq ?_
  refine Runs.seq ?_
  refine Runs.ops ?_
  refine RunAt.chunk 13 [⟨.nilp, []⟩, ⟨.d (.bool false), []⟩, ⟨.d (.bool false), []⟩, ⟨.tup [], []⟩, ⟨.tup [], []⟩, ⟨.tup [], []⟩, ⟨.tup [], []⟩, ⟨.tup [], []⟩, ⟨.d (.bool false), []⟩, ⟨.d (.bool false), []⟩, ⟨.tup [], []⟩, ⟨.tup [], []⟩, ⟨.d (.bool false), []⟩] (by kernel_rfl) ?_
  refine RunAt.done (by kernel_rfl) ?_
  refine kS_nrm ?_
  refine Runs.cond_f (by kernel_rfl) ?_
  refine Runs.skip ?_
  refine kS_nrm ?_
  refine Runs.gsame (by kernel_rfl) ?_
  refine Runs.gnil ?_
  obtain rfl := Option.some.inj h
  exact ⟨Out.nrm_ne, (by kernel_rfl)⟩
theorem index_Source_Wrong_nil_L (e_ : Int) (r : Unit) (h : index_Source_Wrong_nil e_ = some r) : L 27 [.nilp, .d (.int .i64 e_)] = some (.tup [], [.nilp, .d (.int .i64 e_)]) := by
  obtain ⟨p, ⟨hne, hf⟩, hr⟩ := index_Source_Wrong_nil_ok e_ r h
  obtain ⟨k, hk⟩ := run_of (F := F27) (args := [.nilp, .d (.int .i64 e_)]) (ap := [.nilp, .d (.int .i64 e_)]) (bx0 := updW (fun _ => none) []) rfl rfl (by kernel_rfl) ⟨p, ⟨hne, hf⟩, hr⟩
  exact lim_run (k := k) rfl hk
def index_Source_Err_nil_Q  (r : Int) (p : Out × St) : Prop := (∀ i, p.1 ≠ .exit i) ∧ finF F28 [.nilp] p.2 = some (.d (.int .i64 r), [.nilp])
theorem index_Source_Err_nil_ok  (r : Int) (h : index_Source_Err_nil = some r) : Runs L F28.body ⟨tmOf [.nilp] 0, updW (fun _ => none) []⟩ (index_Source_Err_nil_Q  r) := by
  unfold index_Source_Err_nil at h
  refine Runs.seq ?_
  refine Runs.ops ?_
  refine RunAt.chunk 1 [⟨.d (.int .i64 0), []⟩] (by kernel_rfl) ?_
  refine RunAt.done (by kernel_rfl) ?_
  refine kS_nrm ?_
  refine Runs.seq ?_
  refine Runs.seq ?_
  refine Runs.ops ?_
  refine RunAt.chunk 2 [⟨.nilp, []⟩, ⟨.d (.bool true), []⟩] (by kernel_rfl) ?_
  refine RunAt.done (by kernel_rfl) ?_
  refine kS_nrm ?_
  refine Runs.cond_t (by kernel_rfl) ?_
  refine Runs.seq ?_
  refine Runs.ops ?_
  refine RunAt.chunk 1 [⟨.d (.int .i64 1), []⟩] (by kernel_rfl) ?_
  refine RunAt.done (by kernel_rfl) ?_
  refine kS_nrm ?_
  refine Runs.ret ?_
  refine kS_ret ?_
  obtain rfl := Option.some.inj h
  exact ⟨Out.ret_ne, (by kernel_rfl)⟩
theorem index_Source_Err_nil_L  (r : Int) (h : index_Source_Err_nil = some r) : L 28 [.nilp] = some (.d (.int .i64 r), [.nilp]) := by
  obtain ⟨p, ⟨hne, hf⟩, hr⟩ := index_Source_Err_nil_ok  r h
  obtain ⟨k, hk⟩ := run_of (F := F28) (args := [.nilp]) (ap := [.nilp]) (bx0 := updW (fun _ => none) []) rfl rfl (by kernel_rfl) ⟨p, ⟨hne, hf⟩, hr⟩
  exact lim_run (k := k) rfl hk
def index_Source_Left_nil_Q  (r : Int) (p : Out × St) : Prop := (∀ i, p.1 ≠ .exit i) ∧ finF F29 [.nilp] p.2 = some (.d (.int .i64 r), [.nilp])
theorem index_Source_Left_nil_ok  (r : Int) (h : index_Source_Left_nil = some r) : Runs L F29.body ⟨tmOf [.nilp] 0, updW (fun _ => none) []⟩ (index_Source_Left_nil_Q  r) := by
  unfold index_Source_Left_nil at h
  refine Runs.seq ?_
  refine Runs.ops ?_
  refine RunAt.chunk 1 [⟨.d (.int .i64 0), []⟩] (by kernel_rfl) ?_
  refine RunAt.done (by kernel_rfl) ?_
  refine kS_nrm ?_
  refine Runs.seq ?_
  refine Runs.seq ?_
  refine Runs.ops ?_
  refine RunAt.chunk 2 [⟨.nilp, []⟩, ⟨.d (.bool true), []⟩] (by kernel_rfl) ?_
  refine RunAt.done (by kernel_rfl) ?_
  refine kS_nrm ?_
  refine Runs.cond_t (by kernel_rfl) ?_
  refine Runs.seq ?_
  refine Runs.ops ?_
  refine RunAt.chunk 1 [⟨.d (.int .i64 0), []⟩] (by kernel_rfl) ?_
  refine RunAt.done (by kernel_rfl) ?_
  refine kS_nrm ?_
  refine Runs.ret ?_
  refine kS_ret ?_
  obtain rfl := Option.some.inj h
  exact ⟨Out.ret_ne, (by kernel_rfl)⟩
theorem index_Source_Left_nil_L  (r : Int) (h : index_Source_Left_nil = some r) : L 29 [.nilp] = some (.d (.int .i64 r), [.nilp]) := by
  obtain ⟨p, ⟨hne, hf⟩, hr⟩ := index_Source_Left_nil_ok  r h
  obtain ⟨k, hk⟩ := run_of (F := F29) (args := [.nilp]) (ap := [.nilp]) (bx0 := updW (fun _ => none) []) rfl rfl (by kernel_rfl) ⟨p, ⟨hne, hf⟩, hr⟩
  exact lim_run (k := k) rfl hk
def index_Source_Take_nil_Q (n_ : Int) (r : (List Int)) (p : Out × St) : Prop := (∀ i, p.1 ≠ .exit i) ∧ finF F26 [.nilp, .d (.int .i64 n_)] p.2 = some (.d (.sl (List.map (D.int .u8) r)), [.nilp, .d (.int .i64 n_)])
theorem index_Source_Take_nil_ok (n_ : Int) (r : (List Int)) (h : index_Source_Take_nil n_ = some r) : Runs L F26.body ⟨tmOf [.nilp, .d (.int .i64 n_)] 0, updW (fun _ => none) []⟩ (index_Source_Take_nil_Q n_ r) := by
  unfold index_Source_Take_nil at h
  refine Runs.seq ?_
  refine Runs.ops ?_
  refine RunAt.chunk 1 [⟨.nils, []⟩] (by kernel_rfl) ?_
  refine RunAt.done (by kernel_rfl) ?_
  refine kS_nrm ?_
  refine Runs.seq ?_
  refine Runs.seq ?_
  refine Runs.ops ?_
  refine RunAt.chunk 2 [⟨.nilp, []⟩, ⟨.d (.bool true), []⟩] (by kernel_rfl) ?_
  refine RunAt.done (by kernel_rfl) ?_
  refine kS_nrm ?_
  refine Runs.cond_t (by kernel_rfl) ?_
  refine Runs.seq ?_
  refine Runs.ops ?_
  refine RunAt.chunk 1 [⟨.nils, []⟩] (by kernel_rfl) ?_
  refine RunAt.done (by kernel_rfl) ?_
  refine kS_nrm ?_
  refine Runs.seq ?_
  refine Runs.gcons (frz_nil (D.int .u8) (by kernel_rfl)) ?_
  refine Runs.gnil ?_
  refine kS_nrm ?_
  refine Runs.ret ?_
  refine kS_ret ?_
  obtain rfl := Option.some.inj h
  exact ⟨Out.ret_ne, (by kernel_rfl)⟩
theorem index_Source_Take_nil_L (n_ : Int) (r : (List Int)) (h : index_Source_Take_nil n_ = some r) : L 26 [.nilp, .d (.int .i64 n_)] = some (.d (.sl (List.map (D.int .u8) r)), [.nilp, .d (.int .i64 n_)]) := by
  obtain ⟨p, ⟨hne, hf⟩, hr⟩ := index_Source_Take_nil_ok n_ r h
  obtain ⟨k, hk⟩ := run_of (F := F26) (args := [.nilp, .d (.int .i64 n_)]) (ap := [.nilp, .d (.int .i64 n_)]) (bx0 := updW (fun _ => none) []) rfl rfl (by kernel_rfl) ⟨p, ⟨hne, hf⟩, hr⟩
  exact lim_run (k := k) rfl hk
def index_Source_Byte_nil_Q  (r : Int) (p : Out × St) : Prop := (∀ i, p.1 ≠ .exit i) ∧ finF F35 [.nilp] p.2 = some (.d (.int .u8 r), [.nilp])
theorem index_Source_Byte_nil_ok  (r : Int) (h : index_Source_Byte_nil = some r) : Runs L F35.body ⟨tmOf [.nilp] 0, updW (fun _ => none) []⟩ (index_Source_Byte_nil_Q  r) := by
  unfold index_Source_Byte_nil at h
  refine Runs.seq ?_
  refine Runs.ops ?_
  refine RunAt.chunk 1 [⟨.d (.int .u8 0), []⟩] (by kernel_rfl) ?_
  refine RunAt.done (by kernel_rfl) ?_
  refine kS_nrm ?_
  refine Runs.seq ?_
  refine Runs.seq ?_
  refine Runs.ops ?_
  refine RunAt.chunk 1 [⟨.nilp, []⟩] (by kernel_rfl) ?_
  obtain ⟨r_1, hr_1, h⟩ := bind_s h
  have hc_1 := index_Source_Take_nil_L 1 r_1 hr_1
  refine RunAt.cut (some 5) (.callf 26) [] none [.nilp, .d (.int .i64 1)] (.d (.sl (List.map (D.int .u8) r_1))) [] (by kernel_rfl) (by kernel_rfl) (by kernel_rfl) (cut_call (call_of (ws := []) (us := []) (by kernel_rfl) (by kernel_rfl) hc_1 (by kernel_rfl) (by kernel_rfl))) ?_
  refine RunAt.chunk 1 [⟨.d (.sl (List.map (D.int .u8) r_1)), []⟩] (by kernel_rfl) ?_
  refine RunAt.done (by kernel_rfl) ?_
  refine kS_nrm ?_
  refine Runs.seq ?_
  refine Runs.ops ?_
  refine RunAt.chunk 1 [⟨.d (.sl (List.map (D.int .u8) r_1)), []⟩] (by kernel_rfl) ?_
  refine RunAt.cut (some 7) .lenL [] none [.d (.sl (List.map (D.int .u8) r_1))] (.d (.int .i64 (r_1.length : Int))) [] (by kernel_rfl) (by kernel_rfl) (by kernel_rfl) (cut_len _) ?_
  refine RunAt.chunk 1 [⟨.d (.bool ((r_1.length : Int) == 1)), []⟩] (by kernel_rfl) ?_
  refine RunAt.done (by kernel_rfl) ?_
  refine kS_nrm ?_
  cases hb_1 : (((r_1.length : Int) == 1) : Bool) with
  | true =>
    replace h := ite_t hb_1 h
    refine Runs.cond_t (by kernel_rfl) ?_
    refine Runs.seq ?_
    refine Runs.ops ?_
    refine RunAt.chunk 1 [⟨.d (.sl (List.map (D.int .u8) r_1)), []⟩] (by kernel_rfl) ?_
    obtain ⟨z_1, hz_1, h⟩ := bind_s h
    refine RunAt.cut (some 10) (.iaddrS 1) [] none [.d (.sl (List.map (D.int .u8) r_1)), .d (.int .i64 0)] (.elt (.int .u8 z_1) 0) [] (by kernel_rfl) (by kernel_rfl) (by kernel_rfl) (cut_at hz_1 (fun _ => rfl)) ?_
    refine RunAt.chunk 2 [⟨.d (.int .u8 z_1), []⟩, ⟨.d (.int .u8 z_1), []⟩] (by kernel_rfl) ?_
    refine RunAt.done (by kernel_rfl) ?_
    refine kS_nrm ?_
    refine Runs.ret ?_
    refine kS_ret ?_
    obtain rfl := Option.some.inj h
    exact ⟨Out.ret_ne, (by kernel_rfl)⟩
  | false =>
    replace h := ite_f hb_1 h
    refine Runs.cond_f (by kernel_rfl) ?_
    refine Runs.skip ?_
    refine kS_nrm ?_
    refine Runs.seq ?_
    refine Runs.ops ?_
    refine RunAt.chunk 1 [⟨.d (.int .u8 0), []⟩] (by kernel_rfl) ?_
    refine RunAt.done (by kernel_rfl) ?_
    refine kS_nrm ?_
    refine Runs.ret ?_
    obtain rfl := Option.some.inj h
    exact ⟨Out.ret_ne, (by kernel_rfl)⟩
theorem index_Source_Byte_nil_L  (r : Int) (h : index_Source_Byte_nil = some r) : L 35 [.nilp] = some (.d (.int .u8 r), [.nilp]) := by
  obtain ⟨p, ⟨hne, hf⟩, hr⟩ := index_Source_Byte_nil_ok  r h
  obtain ⟨k, hk⟩ := run_of (F := F35) (args := [.nilp]) (ap := [.nilp]) (bx0 := updW (fun _ => none) []) rfl rfl (by kernel_rfl) ⟨p, ⟨hne, hf⟩, hr⟩
  exact lim_run (k := k) rfl hk
def index_Source_End_nil_Q  (r : Int) (p : Out × St) : Prop := (∀ i, p.1 ≠ .exit i) ∧ finF F34 [.nilp] p.2 = some (.d (.int .i64 r), [.nilp])
theorem index_Source_End_nil_ok  (r : Int) (h : index_Source_End_nil = some r) : Runs L F34.body ⟨tmOf [.nilp] 0, updW (fun _ => none) []⟩ (index_Source_End_nil_Q  r) := by
  unfold index_Source_End_nil at h
  refine Runs.seq ?_
  refine Runs.ops ?_
  refine RunAt.chunk 1 [⟨.d (.int .i64 0), []⟩] (by kernel_rfl) ?_
  refine RunAt.done (by kernel_rfl) ?_
  refine kS_nrm ?_
  refine Runs.seq ?_
  refine Runs.seq ?_
  refine Runs.ops ?_
  refine RunAt.chunk 1 [⟨.nilp, []⟩] (by kernel_rfl) ?_
  obtain ⟨r_1, hr_1, h⟩ := bind_s h
  have hc_1 := index_Source_Left_nil_L r_1 hr_1
  refine RunAt.cut (some 4) (.callf 29) [] none [.nilp] (.d (.int .i64 r_1)) [] (by kernel_rfl) (by kernel_rfl) (by kernel_rfl) (cut_call (call_of (ws := []) (us := []) (by kernel_rfl) (by kernel_rfl) hc_1 (by kernel_rfl) (by kernel_rfl))) ?_
  refine RunAt.chunk 1 [⟨.d (.bool (decide (r_1 > 0))), []⟩] (by kernel_rfl) ?_
  refine RunAt.done (by kernel_rfl) ?_
  refine kS_nrm ?_
  cases hb_1 : ((decide (r_1 > 0)) : Bool) with
  | true =>
    replace h := ite_t hb_1 h
    refine Runs.cond_t (by kernel_rfl) ?_
    refine Runs.ops ?_
    refine RunAt.chunk 1 [⟨.nilp, []⟩] (by kernel_rfl) ?_
    obtain ⟨r_2, hr_2, h⟩ := bind_s h
    have hc_2 := index_Source_Wrong_nil_L 3 r_2 hr_2
    refine RunAt.cut (some 7) (.callf 27) [] none [.nilp, .d (.int .i64 3)] (.tup []) [] (by kernel_rfl) (by kernel_rfl) (by kernel_rfl) (cut_call (call_of (ws := []) (us := []) (by kernel_rfl) (by kernel_rfl) hc_2 (by kernel_rfl) (by kernel_rfl))) ?_
    refine RunAt.done (by kernel_rfl) ?_
    refine kS_nrm ?_
    refine Runs.seq ?_
    refine Runs.ops ?_
    refine RunAt.chunk 1 [⟨.nilp, []⟩] (by kernel_rfl) ?_
    obtain ⟨r_3, hr_3, h⟩ := bind_s h
    have hc_3 := index_Source_Err_nil_L r_3 hr_3
    refine RunAt.cut (some 9) (.callf 28) [] none [.nilp] (.d (.int .i64 r_3)) [] (by kernel_rfl) (by kernel_rfl) (by kernel_rfl) (cut_call (call_of (ws := []) (us := []) (by kernel_rfl) (by kernel_rfl) hc_3 (by kernel_rfl) (by kernel_rfl))) ?_
    refine RunAt.chunk 1 [⟨.d (.int .i64 r_3), []⟩] (by kernel_rfl) ?_
    refine RunAt.done (by kernel_rfl) ?_
    refine kS_nrm ?_
    refine Runs.ret ?_
    obtain rfl := Option.some.inj h
    exact ⟨Out.ret_ne, (by kernel_rfl)⟩
  | false =>
    replace h := ite_f hb_1 h
    refine Runs.cond_f (by kernel_rfl) ?_
    refine Runs.skip ?_
    refine kS_nrm ?_
    refine Runs.seq ?_
    refine Runs.ops ?_
    refine RunAt.chunk 1 [⟨.nilp, []⟩] (by kernel_rfl) ?_
    obtain ⟨r_4, hr_4, h⟩ := bind_s h
    have hc_4 := index_Source_Err_nil_L r_4 hr_4
    refine RunAt.cut (some 9) (.callf 28) [] none [.nilp] (.d (.int .i64 r_4)) [] (by kernel_rfl) (by kernel_rfl) (by kernel_rfl) (cut_call (call_of (ws := []) (us := []) (by kernel_rfl) (by kernel_rfl) hc_4 (by kernel_rfl) (by kernel_rfl))) ?_
    refine RunAt.chunk 1 [⟨.d (.int .i64 r_4), []⟩] (by kernel_rfl) ?_
    refine RunAt.done (by kernel_rfl) ?_
    refine kS_nrm ?_
    refine Runs.ret ?_
    obtain rfl := Option.some.inj h
    exact ⟨Out.ret_ne, (by kernel_rfl)⟩
theorem index_Source_End_nil_L  (r : Int) (h : index_Source_End_nil = some r) : L 34 [.nilp] = some (.d (.int .i64 r), [.nilp]) := by
  obtain ⟨p, ⟨hne, hf⟩, hr⟩ := index_Source_End_nil_ok  r h
  obtain ⟨k, hk⟩ := run_of (F := F34) (args := [.nilp]) (ap := [.nilp]) (bx0 := updW (fun _ => none) []) rfl rfl (by kernel_rfl) ⟨p, ⟨hne, hf⟩, hr⟩
  exact lim_run (k := k) rfl hk
def hansomlaw19_IndexShort_h11 (b_20 : Source) (n1 : Int) (kind2 : Int) (y7 : (List Int)) (t9 : (List Int)) (t31 : Bool) : St := ⟨tab [(1, .d (.int .i64 n1)), (2, .d (.int .i64 kind2)), (7, .d (.sl (List.map (D.int .u8) y7))), (8, .ptr [20] 0 0), (9, .d (.sl (List.map (D.int .u8) t9))), (31, .d (.bool t31))], tabB [([20], some (.cells [.d (.sl (List.map (D.int .u8) b_20.b)), .d (.int .i64 b_20.e)] 0))]⟩
def hansomlaw19_IndexShort_h34 (b_20 : Source) (kind2 : Int) (e10 : Int) : St := ⟨tab [(2, .d (.int .i64 kind2)), (8, .ptr [20] 0 0), (10, .d (.int .i64 e10))], tabB [([20], some (.cells [.d (.sl (List.map (D.int .u8) b_20.b)), .d (.int .i64 b_20.e)] 0))]⟩
def hansomlaw19_IndexShort_Q (b_ : (List Int)) (n_ : Int) (kind_ : Int) (r : Bool) (p : Out × St) : Prop := (∀ i, p.1 ≠ .exit i) ∧ finF F4 [.d (.sl (List.map (D.int .u8) b_)), .d (.int .i64 n_), .d (.int .i64 kind_)] p.2 = some (.d (.bool r), [.d (.sl (List.map (D.int .u8) b_)), .d (.int .i64 n_), .d (.int .i64 kind_)])
theorem hansomlaw19_IndexShort_j34_ok (b_ : (List Int)) (n_ : Int) (kind_ : Int) (b_20 : Source) (kind2 : Int) (e10 : Int) (r : Bool) (h : hansomlaw19_IndexShort_j34 b_20 kind2 e10 = some r) : Runs L F4b34 (hansomlaw19_IndexShort_h34 b_20 kind2 e10) (hansomlaw19_IndexShort_Q b_ n_ kind_ r) := by
  unfold hansomlaw19_IndexShort_j34 at h
  refine Runs.seq ?_
  refine Runs.ops ?_
  refine RunAt.chunk 6 [⟨.d (.int .i64 kind2), []⟩, ⟨.d (.int .i64 (bitsOp .and .i64 kind2 1)), []⟩, ⟨.d (.int .i64 (IntKind.wrap .i64 ((bitsOp .and .i64 kind2 1) * 4))), []⟩, ⟨.d (.int .i64 (IntKind.wrap .i64 (133 + (IntKind.wrap .i64 ((bitsOp .and .i64 kind2 1) * 4))))), []⟩, ⟨.d (.int .u8 (IntKind.wrap .u8 (IntKind.wrap .i64 (133 + (IntKind.wrap .i64 ((bitsOp .and .i64 kind2 1) * 4)))))), []⟩, ⟨.ref [105] 0 0 (List.map (D.int .u8) ([(IntKind.wrap .u8 (IntKind.wrap .i64 (133 + (IntKind.wrap .i64 ((bitsOp .and .i64 kind2 1) * 4))))), 1, 2, 3, 4, 5] : List Int)).length 1, [([105], some (.arr (List.map (D.int .u8) ([(IntKind.wrap .u8 (IntKind.wrap .i64 (133 + (IntKind.wrap .i64 ((bitsOp .and .i64 kind2 1) * 4))))), 1, 2, 3, 4, 5] : List Int)) 0 false))]⟩] (by kernel_rfl) ?_
  obtain ⟨r_14, hr_14, h⟩ := bind_s h
  have hc_14 := index_From_L ([(IntKind.wrap .u8 (IntKind.wrap .i64 (133 + (IntKind.wrap .i64 ((bitsOp .and .i64 kind2 1) * 4))))), 1, 2, 3, 4, 5] : List Int) r_14 hr_14
  refine RunAt.cut (some 106) (.callf 25) [] none [.ref [105] 0 0 (List.map (D.int .u8) ([(IntKind.wrap .u8 (IntKind.wrap .i64 (133 + (IntKind.wrap .i64 ((bitsOp .and .i64 kind2 1) * 4))))), 1, 2, 3, 4, 5] : List Int)).length 1] (.ptr [106] 0 0) [([105], some (.arr (List.map (D.int .u8) ([(IntKind.wrap .u8 (IntKind.wrap .i64 (133 + (IntKind.wrap .i64 ((bitsOp .and .i64 kind2 1) * 4))))), 1, 2, 3, 4, 5] : List Int)) 0 true)), ([106], some (.cells [.d (.sl (List.map (D.int .u8) r_14.b)), .d (.int .i64 r_14.e)] 0))] (by kernel_rfl) (by kernel_rfl) (by kernel_rfl) (cut_call (call_of (ws := [([105], some (.arr (List.map (D.int .u8) ([(IntKind.wrap .u8 (IntKind.wrap .i64 (133 + (IntKind.wrap .i64 ((bitsOp .and .i64 kind2 1) * 4))))), 1, 2, 3, 4, 5] : List Int)) 0 true))]) (us := [([105], some (.arr (List.map (D.int .u8) ([(IntKind.wrap .u8 (IntKind.wrap .i64 (133 + (IntKind.wrap .i64 ((bitsOp .and .i64 kind2 1) * 4))))), 1, 2, 3, 4, 5] : List Int)) 0 true))]) (by kernel_rfl) (gives_cons (ws := [([105], some (.arr (List.map (D.int .u8) ([(IntKind.wrap .u8 (IntKind.wrap .i64 (133 + (IntKind.wrap .i64 ((bitsOp .and .i64 kind2 1) * 4))))), 1, 2, 3, 4, 5] : List Int)) 0 true))]) (give_ref (e := (D.int .u8)) (l := ([(IntKind.wrap .u8 (IntKind.wrap .i64 (133 + (IntKind.wrap .i64 ((bitsOp .and .i64 kind2 1) * 4))))), 1, 2, 3, 4, 5] : List Int)) (fz := false) (by kernel_rfl) (by kernel_rfl) rfl) gives_nil) hc_14 (by kernel_rfl) (by kernel_rfl))) ?_
  refine RunAt.chunk 1 [⟨.ptr [106] 0 0, []⟩] (by kernel_rfl) ?_
  refine RunAt.done (by kernel_rfl) ?_
  refine kS_nrm ?_
  refine Runs.seq ?_
  refine Runs.ops ?_
  refine RunAt.chunk 1 [⟨.ptr [106] 0 0, []⟩] (by kernel_rfl) ?_
  obtain ⟨r_15, hr_15, h⟩ := bind_s h
  have hc_15 := index_Source_Long_L r_14 r_15 hr_15
  refine RunAt.cut (some 108) (.callf 33) [] none [.ptr [106] 0 0] (.d (.int .u32 r_15.1)) [([106], some (.cells [.d (.sl (List.map (D.int .u8) r_15.2.b)), .d (.int .i64 r_15.2.e)] 0))] (by kernel_rfl) (by kernel_rfl) (by kernel_rfl) (cut_call (call_of (ws := []) (us := [([106], some (.cells [.d (.sl (List.map (D.int .u8) r_15.2.b)), .d (.int .i64 r_15.2.e)] 0))]) (by kernel_rfl) (by kernel_rfl) hc_15 (by kernel_rfl) (by kernel_rfl))) ?_
  refine RunAt.chunk 1 [⟨.d (.int .u32 r_15.1), []⟩] (by kernel_rfl) ?_
  refine RunAt.done (by kernel_rfl) ?_
  refine kS_nrm ?_
  refine Runs.seq ?_
  refine Runs.ops ?_
  refine RunAt.chunk 1 [⟨.nilp, []⟩] (by kernel_rfl) ?_
  refine RunAt.done (by kernel_rfl) ?_
  refine kS_nrm ?_
  refine Runs.seq ?_
  refine Runs.ops ?_
  refine RunAt.chunk 1 [⟨.nilp, []⟩] (by kernel_rfl) ?_
  obtain ⟨r_16, hr_16, h⟩ := bind_s h
  have hc_16 := index_Source_Wrong_nil_L 3 r_16 hr_16
  refine RunAt.cut (some 110) (.callf 27) [] none [.nilp, .d (.int .i64 3)] (.tup []) [] (by kernel_rfl) (by kernel_rfl) (by kernel_rfl) (cut_call (call_of (ws := []) (us := []) (by kernel_rfl) (by kernel_rfl) hc_16 (by kernel_rfl) (by kernel_rfl))) ?_
  refine RunAt.done (by kernel_rfl) ?_
  refine kS_nrm ?_
  refine Runs.seq ?_
  refine Runs.ops ?_
  obtain ⟨r_17, hr_17, h⟩ := bind_s h
  have hc_17 := hansomlaw19_awake_L r_17 hr_17
  refine RunAt.cut (some 111) (.callf 15) [] none [] (.d (.bool r_17)) [] (by kernel_rfl) (by kernel_rfl) (by kernel_rfl) (cut_call (call_of (ws := []) (us := []) (by kernel_rfl) (by kernel_rfl) hc_17 (by kernel_rfl) (by kernel_rfl))) ?_
  refine RunAt.chunk 1 [⟨.d (.bool r_17), []⟩] (by kernel_rfl) ?_
  cases hb_15 : (r_17 : Bool) with
  | true =>
    replace h := ite_t hb_15 h
    refine RunAt.chunk 1 [⟨.ptr [20] 0 0, []⟩] (by kernel_rfl) ?_
    obtain ⟨r_18, hr_18, h⟩ := bind_s h
    have hc_18 := index_Source_End_L b_20 r_18 hr_18
    refine RunAt.cut (some 114) (.callf 34) [] none [.ptr [20] 0 0] (.d (.int .i64 r_18.1)) [([20], some (.cells [.d (.sl (List.map (D.int .u8) r_18.2.b)), .d (.int .i64 r_18.2.e)] 0))] (by kernel_rfl) (by kernel_rfl) (by kernel_rfl) (cut_call (call_of (ws := []) (us := [([20], some (.cells [.d (.sl (List.map (D.int .u8) r_18.2.b)), .d (.int .i64 r_18.2.e)] 0))]) (by kernel_rfl) (by kernel_rfl) hc_18 (by kernel_rfl) (by kernel_rfl))) ?_
    refine RunAt.chunk 4 [⟨.d (.int .i64 e10), []⟩, ⟨.d (.bool (r_18.1 == e10)), []⟩, ⟨.d (.bool (r_18.1 == e10)), []⟩, ⟨.d (.bool (r_18.1 == e10)), []⟩] (by kernel_rfl) ?_
    cases hb_16 : ((r_18.1 == e10) : Bool) with
    | true =>
      replace h := ite_t hb_16 h
      refine RunAt.chunk 4 [⟨.d (.int .u32 r_15.1), []⟩, ⟨.d (.bool (r_15.1 == 0)), []⟩, ⟨.d (.bool (r_15.1 == 0)), []⟩, ⟨.d (.bool (r_15.1 == 0)), []⟩] (by kernel_rfl) ?_
      cases hb_17 : ((r_15.1 == 0) : Bool) with
      | true =>
        replace h := ite_t hb_17 h
        refine RunAt.chunk 1 [⟨.ptr [106] 0 0, []⟩] (by kernel_rfl) ?_
        obtain ⟨r_19, hr_19, h⟩ := bind_s h
        have hc_19 := index_Source_Err_L r_15.2 r_19 hr_19
        refine RunAt.cut (some 124) (.callf 28) [] none [.ptr [106] 0 0] (.d (.int .i64 r_19)) [([106], some (.cells [.d (.sl (List.map (D.int .u8) r_15.2.b)), .d (.int .i64 r_15.2.e)] 0))] (by kernel_rfl) (by kernel_rfl) (by kernel_rfl) (cut_call (call_of (ws := []) (us := [([106], some (.cells [.d (.sl (List.map (D.int .u8) r_15.2.b)), .d (.int .i64 r_15.2.e)] 0))]) (by kernel_rfl) (by kernel_rfl) hc_19 (by kernel_rfl) (by kernel_rfl))) ?_
        refine RunAt.chunk 3 [⟨.d (.bool (r_19 == 3)), []⟩, ⟨.d (.bool (r_19 == 3)), []⟩, ⟨.d (.bool (r_19 == 3)), []⟩] (by kernel_rfl) ?_
        cases hb_18 : ((r_19 == 3) : Bool) with
        | true =>
          replace h := ite_t hb_18 h
          refine RunAt.chunk 1 [⟨.nilp, []⟩] (by kernel_rfl) ?_
          obtain ⟨r_20, hr_20, h⟩ := bind_s h
          have hc_20 := index_Source_Err_nil_L r_20 hr_20
          refine RunAt.cut (some 129) (.callf 28) [] none [.nilp] (.d (.int .i64 r_20)) [] (by kernel_rfl) (by kernel_rfl) (by kernel_rfl) (cut_call (call_of (ws := []) (us := []) (by kernel_rfl) (by kernel_rfl) hc_20 (by kernel_rfl) (by kernel_rfl))) ?_
          refine RunAt.chunk 3 [⟨.d (.bool (r_20 == 1)), []⟩, ⟨.d (.bool (r_20 == 1)), []⟩, ⟨.d (.bool (r_20 == 1)), []⟩] (by kernel_rfl) ?_
          cases hb_19 : ((r_20 == 1) : Bool) with
          | true =>
            replace h := ite_t hb_19 h
            refine RunAt.chunk 1 [⟨.nilp, []⟩] (by kernel_rfl) ?_
            obtain ⟨r_21, hr_21, h⟩ := bind_s h
            have hc_21 := index_Source_Left_nil_L r_21 hr_21
            refine RunAt.cut (some 134) (.callf 29) [] none [.nilp] (.d (.int .i64 r_21)) [] (by kernel_rfl) (by kernel_rfl) (by kernel_rfl) (cut_call (call_of (ws := []) (us := []) (by kernel_rfl) (by kernel_rfl) hc_21 (by kernel_rfl) (by kernel_rfl))) ?_
            refine RunAt.chunk 3 [⟨.d (.bool (r_21 == 0)), []⟩, ⟨.d (.bool (r_21 == 0)), []⟩, ⟨.d (.bool (r_21 == 0)), []⟩] (by kernel_rfl) ?_
            cases hb_20 : ((r_21 == 0) : Bool) with
            | true =>
              replace h := ite_t hb_20 h
              refine RunAt.chunk 1 [⟨.nilp, []⟩] (by kernel_rfl) ?_
              obtain ⟨r_22, hr_22, h⟩ := bind_s h
              have hc_22 := index_Source_Byte_nil_L r_22 hr_22
              refine RunAt.cut (some 139) (.callf 35) [] none [.nilp] (.d (.int .u8 r_22)) [] (by kernel_rfl) (by kernel_rfl) (by kernel_rfl) (cut_call (call_of (ws := []) (us := []) (by kernel_rfl) (by kernel_rfl) hc_22 (by kernel_rfl) (by kernel_rfl))) ?_
              refine RunAt.chunk 3 [⟨.d (.bool (r_22 == 0)), []⟩, ⟨.d (.bool (r_22 == 0)), []⟩, ⟨.d (.bool (r_22 == 0)), []⟩] (by kernel_rfl) ?_
              cases hb_21 : ((r_22 == 0) : Bool) with
              | true =>
                replace h := ite_t hb_21 h
                refine RunAt.chunk 1 [⟨.nilp, []⟩] (by kernel_rfl) ?_
                obtain ⟨r_23, hr_23, h⟩ := bind_s h
                have hc_23 := index_Source_Take_nil_L 1 r_23 hr_23
                refine RunAt.cut (some 144) (.callf 26) [] none [.nilp, .d (.int .i64 1)] (.d (.sl (List.map (D.int .u8) r_23))) [] (by kernel_rfl) (by kernel_rfl) (by kernel_rfl) (cut_call (call_of (ws := []) (us := []) (by kernel_rfl) (by kernel_rfl) hc_23 (by kernel_rfl) (by kernel_rfl))) ?_
                refine RunAt.cut (some 145) .lenL [] none [.d (.sl (List.map (D.int .u8) r_23))] (.d (.int .i64 (r_23.length : Int))) [] (by kernel_rfl) (by kernel_rfl) (by kernel_rfl) (cut_len _) ?_
                refine RunAt.chunk 3 [⟨.d (.bool ((r_23.length : Int) == 0)), []⟩, ⟨.d (.bool ((r_23.length : Int) == 0)), []⟩, ⟨.d (.bool ((r_23.length : Int) == 0)), []⟩] (by kernel_rfl) ?_
                cases hb_22 : (((r_23.length : Int) == 0) : Bool) with
                | true =>
                  replace h := ite_t hb_22 h
                  refine RunAt.chunk 1 [⟨.nilp, []⟩] (by kernel_rfl) ?_
                  obtain ⟨r_24, hr_24, h⟩ := bind_s h
                  have hc_24 := index_Source_End_nil_L r_24 hr_24
                  refine RunAt.cut (some 150) (.callf 34) [] none [.nilp] (.d (.int .i64 r_24)) [] (by kernel_rfl) (by kernel_rfl) (by kernel_rfl) (cut_call (call_of (ws := []) (us := []) (by kernel_rfl) (by kernel_rfl) hc_24 (by kernel_rfl) (by kernel_rfl))) ?_
                  refine RunAt.chunk 3 [⟨.d (.bool (r_24 == 1)), []⟩, ⟨.d (.bool (r_24 == 1)), []⟩, ⟨.d (.bool (r_24 == 1)), []⟩] (by kernel_rfl) ?_
                  refine RunAt.done (by kernel_rfl) ?_
                  refine kS_nrm ?_
                  refine Runs.ret ?_
                  obtain rfl := Option.some.inj h
                  exact ⟨Out.ret_ne, (by kernel_rfl)⟩
                | false =>
                  replace h := ite_f hb_22 h
                  refine RunAt.chunk 5 [⟨.tup [], []⟩, ⟨.tup [], []⟩, ⟨.tup [], []⟩, ⟨.d (.bool false), []⟩, ⟨.d (.bool false), []⟩] (by kernel_rfl) ?_
                  refine RunAt.done (by kernel_rfl) ?_
                  refine kS_nrm ?_
                  refine Runs.ret ?_
                  obtain rfl := Option.some.inj h
                  exact ⟨Out.ret_ne, (by kernel_rfl)⟩
              | false =>
                replace h := ite_f hb_21 h
                refine RunAt.chunk 11 [⟨.tup [], []⟩, ⟨.tup [], []⟩, ⟨.tup [], []⟩, ⟨.tup [], []⟩, ⟨.d (.bool false), []⟩, ⟨.d (.bool false), []⟩, ⟨.tup [], []⟩, ⟨.tup [], []⟩, ⟨.tup [], []⟩, ⟨.d (.bool false), []⟩, ⟨.d (.bool false), []⟩] (by kernel_rfl) ?_
                refine RunAt.done (by kernel_rfl) ?_
                refine kS_nrm ?_
                refine Runs.ret ?_
                obtain rfl := Option.some.inj h
                exact ⟨Out.ret_ne, (by kernel_rfl)⟩
            | false =>
              replace h := ite_f hb_20 h
              refine RunAt.chunk 16 [⟨.tup [], []⟩, ⟨.tup [], []⟩, ⟨.tup [], []⟩, ⟨.d (.bool false), []⟩, ⟨.d (.bool false), []⟩, ⟨.tup [], []⟩, ⟨.tup [], []⟩, ⟨.tup [], []⟩, ⟨.tup [], []⟩, ⟨.d (.bool false), []⟩, ⟨.d (.bool false), []⟩, ⟨.tup [], []⟩, ⟨.tup [], []⟩, ⟨.tup [], []⟩, ⟨.d (.bool false), []⟩, ⟨.d (.bool false), []⟩] (by kernel_rfl) ?_
              refine RunAt.done (by kernel_rfl) ?_
              refine kS_nrm ?_
              refine Runs.ret ?_
              obtain rfl := Option.some.inj h
              exact ⟨Out.ret_ne, (by kernel_rfl)⟩
          | false =>
            replace h := ite_f hb_19 h
            refine RunAt.chunk 21 [⟨.tup [], []⟩, ⟨.tup [], []⟩, ⟨.tup [], []⟩, ⟨.d (.bool false), []⟩, ⟨.d (.bool false), []⟩, ⟨.tup [], []⟩, ⟨.tup [], []⟩, ⟨.tup [], []⟩, ⟨.d (.bool false), []⟩, ⟨.d (.bool false), []⟩, ⟨.tup [], []⟩, ⟨.tup [], []⟩, ⟨.tup [], []⟩, ⟨.tup [], []⟩, ⟨.d (.bool false), []⟩, ⟨.d (.bool false), []⟩, ⟨.tup [], []⟩, ⟨.tup [], []⟩, ⟨.tup [], []⟩, ⟨.d (.bool false), []⟩, ⟨.d (.bool false), []⟩] (by kernel_rfl) ?_
            refine RunAt.done (by kernel_rfl) ?_
            refine kS_nrm ?_
            refine Runs.ret ?_
            obtain rfl := Option.some.inj h
            exact ⟨Out.ret_ne, (by kernel_rfl)⟩
        | false =>
          replace h := ite_f hb_18 h
          refine RunAt.chunk 26 [⟨.tup [], []⟩, ⟨.tup [], []⟩, ⟨.tup [], []⟩, ⟨.d (.bool false), []⟩, ⟨.d (.bool false), []⟩, ⟨.tup [], []⟩, ⟨.tup [], []⟩, ⟨.tup [], []⟩, ⟨.d (.bool false), []⟩, ⟨.d (.bool false), []⟩, ⟨.tup [], []⟩, ⟨.tup [], []⟩, ⟨.tup [], []⟩, ⟨.d (.bool false), []⟩, ⟨.d (.bool false), []⟩, ⟨.tup [], []⟩, ⟨.tup [], []⟩, ⟨.tup [], []⟩, ⟨.tup [], []⟩, ⟨.d (.bool false), []⟩, ⟨.d (.bool false), []⟩, ⟨.tup [], []⟩, ⟨.tup [], []⟩, ⟨.tup [], []⟩, ⟨.d (.bool false), []⟩, ⟨.d (.bool false), []⟩] (by kernel_rfl) ?_
          refine RunAt.done (by kernel_rfl) ?_
          refine kS_nrm ?_
          refine Runs.ret ?_
          obtain rfl := Option.some.inj h
          exact ⟨Out.ret_ne, (by kernel_rfl)⟩
      | false =>
        replace h := ite_f hb_17 h
        refine RunAt.chunk 31 [⟨.tup [], []⟩, ⟨.tup [], []⟩, ⟨.tup [], []⟩, ⟨.d (.bool false), []⟩, ⟨.d (.bool false), []⟩, ⟨.tup [], []⟩, ⟨.tup [], []⟩, ⟨.tup [], []⟩, ⟨.d (.bool false), []⟩, ⟨.d (.bool false), []⟩, ⟨.tup [], []⟩, ⟨.tup [], []⟩, ⟨.tup [], []⟩, ⟨.d (.bool false), []⟩, ⟨.d (.bool false), []⟩, ⟨.tup [], []⟩, ⟨.tup [], []⟩, ⟨.tup [], []⟩, ⟨.d (.bool false), []⟩, ⟨.d (.bool false), []⟩, ⟨.tup [], []⟩, ⟨.tup [], []⟩, ⟨.tup [], []⟩, ⟨.tup [], []⟩, ⟨.d (.bool false), []⟩, ⟨.d (.bool false), []⟩, ⟨.tup [], []⟩, ⟨.tup [], []⟩, ⟨.tup [], []⟩, ⟨.d (.bool false), []⟩, ⟨.d (.bool false), []⟩] (by kernel_rfl) ?_
        refine RunAt.done (by kernel_rfl) ?_
        refine kS_nrm ?_
        refine Runs.ret ?_
        obtain rfl := Option.some.inj h
        exact ⟨Out.ret_ne, (by kernel_rfl)⟩
    | false =>
      replace h := ite_f hb_16 h
      refine RunAt.chunk 35 [⟨.tup [], []⟩, ⟨.tup [], []⟩, ⟨.d (.bool false), []⟩, ⟨.d (.bool false), []⟩, ⟨.tup [], []⟩, ⟨.tup [], []⟩, ⟨.tup [], []⟩, ⟨.d (.bool false), []⟩, ⟨.d (.bool false), []⟩, ⟨.tup [], []⟩, ⟨.tup [], []⟩, ⟨.tup [], []⟩, ⟨.d (.bool false), []⟩, ⟨.d (.bool false), []⟩, ⟨.tup [], []⟩, ⟨.tup [], []⟩, ⟨.tup [], []⟩, ⟨.d (.bool false), []⟩, ⟨.d (.bool false), []⟩, ⟨.tup [], []⟩, ⟨.tup [], []⟩, ⟨.tup [], []⟩, ⟨.d (.bool false), []⟩, ⟨.d (.bool false), []⟩, ⟨.tup [], []⟩, ⟨.tup [], []⟩, ⟨.tup [], []⟩, ⟨.tup [], []⟩, ⟨.d (.bool false), []⟩, ⟨.d (.bool false), []⟩, ⟨.tup [], []⟩, ⟨.tup [], []⟩, ⟨.tup [], []⟩, ⟨.d (.bool false), []⟩, ⟨.d (.bool false), []⟩] (by kernel_rfl) ?_
      refine RunAt.done (by kernel_rfl) ?_
      refine kS_nrm ?_
      refine Runs.ret ?_
      obtain rfl := Option.some.inj h
      exact ⟨Out.ret_ne, (by kernel_rfl)⟩
  | false =>
    replace h := ite_f hb_15 h
    refine RunAt.chunk 41 [⟨.tup [], []⟩, ⟨.tup [], []⟩, ⟨.tup [], []⟩, ⟨.tup [], []⟩, ⟨.d (.bool false), []⟩, ⟨.d (.bool false), []⟩, ⟨.tup [], []⟩, ⟨.tup [], []⟩, ⟨.d (.bool false), []⟩, ⟨.d (.bool false), []⟩, ⟨.tup [], []⟩, ⟨.tup [], []⟩, ⟨.tup [], []⟩, ⟨.d (.bool false), []⟩, ⟨.d (.bool false), []⟩, ⟨.tup [], []⟩, ⟨.tup [], []⟩, ⟨.tup [], []⟩, ⟨.d (.bool false), []⟩, ⟨.d (.bool false), []⟩, ⟨.tup [], []⟩, ⟨.tup [], []⟩, ⟨.tup [], []⟩, ⟨.d (.bool false), []⟩, ⟨.d (.bool false), []⟩, ⟨.tup [], []⟩, ⟨.tup [], []⟩, ⟨.tup [], []⟩, ⟨.d (.bool false), []⟩, ⟨.d (.bool false), []⟩, ⟨.tup [], []⟩, ⟨.tup [], []⟩, ⟨.tup [], []⟩, ⟨.tup [], []⟩, ⟨.d (.bool false), []⟩, ⟨.d (.bool false), []⟩, ⟨.tup [], []⟩, ⟨.tup [], []⟩, ⟨.tup [], []⟩, ⟨.d (.bool false), []⟩, ⟨.d (.bool false), []⟩] (by kernel_rfl) ?_
    refine RunAt.done (by kernel_rfl) ?_
    refine kS_nrm ?_
    refine Runs.ret ?_
    obtain rfl := Option.some.inj h
    exact ⟨Out.ret_ne, (by kernel_rfl)⟩
theorem hansomlaw19_IndexShort_j11_ok (b_ : (List Int)) (n_ : Int) (kind_ : Int) (b_20 : Source) (n1 : Int) (kind2 : Int) (y7 : (List Int)) (t9 : (List Int)) (t31 : Bool) (r : Bool) (h : hansomlaw19_IndexShort_j11 b_20 n1 kind2 y7 t9 t31 = some r) : Runs L F4b11 (hansomlaw19_IndexShort_h11 b_20 n1 kind2 y7 t9 t31) (kS L F4c18 (hansomlaw19_IndexShort_Q b_ n_ kind_ r)) := by
  unfold hansomlaw19_IndexShort_j11 at h
  cases hb_2 : (t31 : Bool) with
  | true =>
    replace h := ite_t hb_2 h
    refine Runs.cond_t (by kernel_rfl) ?_
    refine Runs.seq ?_
    refine Runs.ops ?_
    refine RunAt.chunk 1 [⟨.ptr [20] 0 0, []⟩] (by kernel_rfl) ?_
    obtain ⟨r_3, hr_3, h⟩ := bind_s h
    have hc_3 := index_Source_Wrong_L b_20 3 r_3 hr_3
    refine RunAt.cut (some 33) (.callf 27) [] none [.ptr [20] 0 0, .d (.int .i64 3)] (.tup []) [([20], some (.cells [.d (.sl (List.map (D.int .u8) r_3.b)), .d (.int .i64 r_3.e)] 0))] (by kernel_rfl) (by kernel_rfl) (by kernel_rfl) (cut_call (call_of (ws := []) (us := [([20], some (.cells [.d (.sl (List.map (D.int .u8) r_3.b)), .d (.int .i64 r_3.e)] 0))]) (by kernel_rfl) (by kernel_rfl) hc_3 (by kernel_rfl) (by kernel_rfl))) ?_
    refine RunAt.done (by kernel_rfl) ?_
    refine kS_nrm ?_
    refine Runs.seq ?_
    refine Runs.ops ?_
    obtain ⟨r_4, hr_4, h⟩ := bind_s h
    have hc_4 := hansomlaw19_awake_L r_4 hr_4
    refine RunAt.cut (some 34) (.callf 15) [] none [] (.d (.bool r_4)) [] (by kernel_rfl) (by kernel_rfl) (by kernel_rfl) (cut_call (call_of (ws := []) (us := []) (by kernel_rfl) (by kernel_rfl) hc_4 (by kernel_rfl) (by kernel_rfl))) ?_
    refine RunAt.chunk 1 [⟨.d (.bool r_4), []⟩] (by kernel_rfl) ?_
    cases hb_3 : (r_4 : Bool) with
    | true =>
      replace h := ite_t hb_3 h
      refine RunAt.chunk 1 [⟨.d (.sl (List.map (D.int .u8) t9)), []⟩] (by kernel_rfl) ?_
      refine RunAt.cut (some 37) .lenL [] none [.d (.sl (List.map (D.int .u8) t9))] (.d (.int .i64 (t9.length : Int))) [] (by kernel_rfl) (by kernel_rfl) (by kernel_rfl) (cut_len _) ?_
      refine RunAt.chunk 3 [⟨.d (.bool ((t9.length : Int) == 0)), []⟩, ⟨.d (.bool ((t9.length : Int) == 0)), []⟩, ⟨.d (.bool ((t9.length : Int) == 0)), []⟩] (by kernel_rfl) ?_
      cases hb_4 : (((t9.length : Int) == 0) : Bool) with
      | true =>
        replace h := ite_t hb_4 h
        refine RunAt.chunk 1 [⟨.ptr [20] 0 0, []⟩] (by kernel_rfl) ?_
        obtain ⟨r_5, hr_5, h⟩ := bind_s h
        have hc_5 := index_Source_Err_L r_3 r_5 hr_5
        refine RunAt.cut (some 42) (.callf 28) [] none [.ptr [20] 0 0] (.d (.int .i64 r_5)) [([20], some (.cells [.d (.sl (List.map (D.int .u8) r_3.b)), .d (.int .i64 r_3.e)] 0))] (by kernel_rfl) (by kernel_rfl) (by kernel_rfl) (cut_call (call_of (ws := []) (us := [([20], some (.cells [.d (.sl (List.map (D.int .u8) r_3.b)), .d (.int .i64 r_3.e)] 0))]) (by kernel_rfl) (by kernel_rfl) hc_5 (by kernel_rfl) (by kernel_rfl))) ?_
        refine RunAt.chunk 3 [⟨.d (.bool (r_5 == 2)), []⟩, ⟨.d (.bool (r_5 == 2)), []⟩, ⟨.d (.bool (r_5 == 2)), []⟩] (by kernel_rfl) ?_
        cases hb_5 : ((r_5 == 2) : Bool) with
        | true =>
          replace h := ite_t hb_5 h
          refine RunAt.chunk 1 [⟨.ptr [20] 0 0, []⟩] (by kernel_rfl) ?_
          obtain ⟨r_6, hr_6, h⟩ := bind_s h
          have hc_6 := index_Source_Left_L r_3 r_6 hr_6
          refine RunAt.cut (some 47) (.callf 29) [] none [.ptr [20] 0 0] (.d (.int .i64 r_6)) [([20], some (.cells [.d (.sl (List.map (D.int .u8) r_3.b)), .d (.int .i64 r_3.e)] 0))] (by kernel_rfl) (by kernel_rfl) (by kernel_rfl) (cut_call (call_of (ws := []) (us := [([20], some (.cells [.d (.sl (List.map (D.int .u8) r_3.b)), .d (.int .i64 r_3.e)] 0))]) (by kernel_rfl) (by kernel_rfl) hc_6 (by kernel_rfl) (by kernel_rfl))) ?_
          refine RunAt.chunk 3 [⟨.d (.bool (r_6 == 0)), []⟩, ⟨.d (.bool (r_6 == 0)), []⟩, ⟨.d (.bool (r_6 == 0)), []⟩] (by kernel_rfl) ?_
          cases hb_6 : ((r_6 == 0) : Bool) with
          | true =>
            replace h := ite_t hb_6 h
            refine RunAt.chunk 1 [⟨.ptr [20] 0 0, []⟩] (by kernel_rfl) ?_
            obtain ⟨r_7, hr_7, h⟩ := bind_s h
            have hc_7 := index_Source_Word_L r_3 r_7 hr_7
            refine RunAt.cut (some 52) (.callf 30) [] none [.ptr [20] 0 0] (.d (.int .u16 r_7.1)) [([20], some (.cells [.d (.sl (List.map (D.int .u8) r_7.2.b)), .d (.int .i64 r_7.2.e)] 0))] (by kernel_rfl) (by kernel_rfl) (by kernel_rfl) (cut_call (call_of (ws := []) (us := [([20], some (.cells [.d (.sl (List.map (D.int .u8) r_7.2.b)), .d (.int .i64 r_7.2.e)] 0))]) (by kernel_rfl) (by kernel_rfl) hc_7 (by kernel_rfl) (by kernel_rfl))) ?_
            refine RunAt.chunk 3 [⟨.d (.bool (r_7.1 == 0)), []⟩, ⟨.d (.bool (r_7.1 == 0)), []⟩, ⟨.d (.bool (r_7.1 == 0)), []⟩] (by kernel_rfl) ?_
            cases hb_7 : ((r_7.1 == 0) : Bool) with
            | true =>
              replace h := ite_t hb_7 h
              refine RunAt.chunk 1 [⟨.ptr [20] 0 0, []⟩] (by kernel_rfl) ?_
              obtain ⟨r_8, hr_8, h⟩ := bind_s h
              have hc_8 := index_Source_Index_L r_7.2 r_8 hr_8
              refine RunAt.cut (some 57) (.callf 31) [] none [.ptr [20] 0 0] (.d (.int .i64 r_8.1)) [([20], some (.cells [.d (.sl (List.map (D.int .u8) r_8.2.b)), .d (.int .i64 r_8.2.e)] 0))] (by kernel_rfl) (by kernel_rfl) (by kernel_rfl) (cut_call (call_of (ws := []) (us := [([20], some (.cells [.d (.sl (List.map (D.int .u8) r_8.2.b)), .d (.int .i64 r_8.2.e)] 0))]) (by kernel_rfl) (by kernel_rfl) hc_8 (by kernel_rfl) (by kernel_rfl))) ?_
              refine RunAt.chunk 3 [⟨.d (.bool (r_8.1 == 0)), []⟩, ⟨.d (.bool (r_8.1 == 0)), []⟩, ⟨.d (.bool (r_8.1 == 0)), []⟩] (by kernel_rfl) ?_
              cases hb_8 : ((r_8.1 == 0) : Bool) with
              | true =>
                replace h := ite_t hb_8 h
                refine RunAt.chunk 1 [⟨.ptr [20] 0 0, []⟩] (by kernel_rfl) ?_
                obtain ⟨r_9, hr_9, h⟩ := bind_s h
                have hc_9 := index_Source_Name_L r_8.2 r_9 hr_9
                refine RunAt.cut (some 62) (.callf 32) [] none [.ptr [20] 0 0] (.d (.str r_9.1)) [([20], some (.cells [.d (.sl (List.map (D.int .u8) r_9.2.b)), .d (.int .i64 r_9.2.e)] 0))] (by kernel_rfl) (by kernel_rfl) (by kernel_rfl) (cut_call (call_of (ws := []) (us := [([20], some (.cells [.d (.sl (List.map (D.int .u8) r_9.2.b)), .d (.int .i64 r_9.2.e)] 0))]) (by kernel_rfl) (by kernel_rfl) hc_9 (by kernel_rfl) (by kernel_rfl))) ?_
                refine RunAt.chunk 3 [⟨.d (.bool (r_9.1 == ([] : List UInt8))), []⟩, ⟨.d (.bool (r_9.1 == ([] : List UInt8))), []⟩, ⟨.d (.bool (r_9.1 == ([] : List UInt8))), []⟩] (by kernel_rfl) ?_
                cases hb_9 : ((r_9.1 == ([] : List UInt8)) : Bool) with
                | true =>
                  replace h := ite_t hb_9 h
                  refine RunAt.chunk 1 [⟨.ptr [20] 0 0, []⟩] (by kernel_rfl) ?_
                  obtain ⟨r_10, hr_10, h⟩ := bind_s h
                  have hc_10 := index_Source_Long_L r_9.2 r_10 hr_10
                  refine RunAt.cut (some 67) (.callf 33) [] none [.ptr [20] 0 0] (.d (.int .u32 r_10.1)) [([20], some (.cells [.d (.sl (List.map (D.int .u8) r_10.2.b)), .d (.int .i64 r_10.2.e)] 0))] (by kernel_rfl) (by kernel_rfl) (by kernel_rfl) (cut_call (call_of (ws := []) (us := [([20], some (.cells [.d (.sl (List.map (D.int .u8) r_10.2.b)), .d (.int .i64 r_10.2.e)] 0))]) (by kernel_rfl) (by kernel_rfl) hc_10 (by kernel_rfl) (by kernel_rfl))) ?_
                  refine RunAt.chunk 3 [⟨.d (.bool (r_10.1 == 0)), []⟩, ⟨.d (.bool (r_10.1 == 0)), []⟩, ⟨.d (.bool (r_10.1 == 0)), []⟩] (by kernel_rfl) ?_
                  cases hb_10 : ((r_10.1 == 0) : Bool) with
                  | true =>
                    replace h := ite_t hb_10 h
                    refine RunAt.chunk 1 [⟨.ptr [20] 0 0, []⟩] (by kernel_rfl) ?_
                    obtain ⟨r_11, hr_11, h⟩ := bind_s h
                    have hc_11 := index_Source_End_L r_10.2 r_11 hr_11
                    refine RunAt.cut (some 72) (.callf 34) [] none [.ptr [20] 0 0] (.d (.int .i64 r_11.1)) [([20], some (.cells [.d (.sl (List.map (D.int .u8) r_11.2.b)), .d (.int .i64 r_11.2.e)] 0))] (by kernel_rfl) (by kernel_rfl) (by kernel_rfl) (cut_call (call_of (ws := []) (us := [([20], some (.cells [.d (.sl (List.map (D.int .u8) r_11.2.b)), .d (.int .i64 r_11.2.e)] 0))]) (by kernel_rfl) (by kernel_rfl) hc_11 (by kernel_rfl) (by kernel_rfl))) ?_
                    refine RunAt.chunk 3 [⟨.d (.bool (r_11.1 == 2)), []⟩, ⟨.d (.bool (r_11.1 == 2)), []⟩, ⟨.d (.bool (r_11.1 == 2)), []⟩] (by kernel_rfl) ?_
                    refine RunAt.done (by kernel_rfl) ?_
                    refine kS_nrm ?_
                    refine Runs.ret ?_
                    refine kS_ret ?_
                    obtain rfl := Option.some.inj h
                    exact ⟨Out.ret_ne, (by kernel_rfl)⟩
                  | false =>
                    replace h := ite_f hb_10 h
                    refine RunAt.chunk 5 [⟨.tup [], []⟩, ⟨.tup [], []⟩, ⟨.tup [], []⟩, ⟨.d (.bool false), []⟩, ⟨.d (.bool false), []⟩] (by kernel_rfl) ?_
                    refine RunAt.done (by kernel_rfl) ?_
                    refine kS_nrm ?_
                    refine Runs.ret ?_
                    refine kS_ret ?_
                    obtain rfl := Option.some.inj h
                    exact ⟨Out.ret_ne, (by kernel_rfl)⟩
                | false =>
                  replace h := ite_f hb_9 h
                  refine RunAt.chunk 10 [⟨.tup [], []⟩, ⟨.tup [], []⟩, ⟨.tup [], []⟩, ⟨.d (.bool false), []⟩, ⟨.d (.bool false), []⟩, ⟨.tup [], []⟩, ⟨.tup [], []⟩, ⟨.tup [], []⟩, ⟨.d (.bool false), []⟩, ⟨.d (.bool false), []⟩] (by kernel_rfl) ?_
                  refine RunAt.done (by kernel_rfl) ?_
                  refine kS_nrm ?_
                  refine Runs.ret ?_
                  refine kS_ret ?_
                  obtain rfl := Option.some.inj h
                  exact ⟨Out.ret_ne, (by kernel_rfl)⟩
              | false =>
                replace h := ite_f hb_8 h
                refine RunAt.chunk 15 [⟨.tup [], []⟩, ⟨.tup [], []⟩, ⟨.tup [], []⟩, ⟨.d (.bool false), []⟩, ⟨.d (.bool false), []⟩, ⟨.tup [], []⟩, ⟨.tup [], []⟩, ⟨.tup [], []⟩, ⟨.d (.bool false), []⟩, ⟨.d (.bool false), []⟩, ⟨.tup [], []⟩, ⟨.tup [], []⟩, ⟨.tup [], []⟩, ⟨.d (.bool false), []⟩, ⟨.d (.bool false), []⟩] (by kernel_rfl) ?_
                refine RunAt.done (by kernel_rfl) ?_
                refine kS_nrm ?_
                refine Runs.ret ?_
                refine kS_ret ?_
                obtain rfl := Option.some.inj h
                exact ⟨Out.ret_ne, (by kernel_rfl)⟩
            | false =>
              replace h := ite_f hb_7 h
              refine RunAt.chunk 20 [⟨.tup [], []⟩, ⟨.tup [], []⟩, ⟨.tup [], []⟩, ⟨.d (.bool false), []⟩, ⟨.d (.bool false), []⟩, ⟨.tup [], []⟩, ⟨.tup [], []⟩, ⟨.tup [], []⟩, ⟨.d (.bool false), []⟩, ⟨.d (.bool false), []⟩, ⟨.tup [], []⟩, ⟨.tup [], []⟩, ⟨.tup [], []⟩, ⟨.d (.bool false), []⟩, ⟨.d (.bool false), []⟩, ⟨.tup [], []⟩, ⟨.tup [], []⟩, ⟨.tup [], []⟩, ⟨.d (.bool false), []⟩, ⟨.d (.bool false), []⟩] (by kernel_rfl) ?_
              refine RunAt.done (by kernel_rfl) ?_
              refine kS_nrm ?_
              refine Runs.ret ?_
              refine kS_ret ?_
              obtain rfl := Option.some.inj h
              exact ⟨Out.ret_ne, (by kernel_rfl)⟩
          | false =>
            replace h := ite_f hb_6 h
            refine RunAt.chunk 25 [⟨.tup [], []⟩, ⟨.tup [], []⟩, ⟨.tup [], []⟩, ⟨.d (.bool false), []⟩, ⟨.d (.bool false), []⟩, ⟨.tup [], []⟩, ⟨.tup [], []⟩, ⟨.tup [], []⟩, ⟨.d (.bool false), []⟩, ⟨.d (.bool false), []⟩, ⟨.tup [], []⟩, ⟨.tup [], []⟩, ⟨.tup [], []⟩, ⟨.d (.bool false), []⟩, ⟨.d (.bool false), []⟩, ⟨.tup [], []⟩, ⟨.tup [], []⟩, ⟨.tup [], []⟩, ⟨.d (.bool false), []⟩, ⟨.d (.bool false), []⟩, ⟨.tup [], []⟩, ⟨.tup [], []⟩, ⟨.tup [], []⟩, ⟨.d (.bool false), []⟩, ⟨.d (.bool false), []⟩] (by kernel_rfl) ?_
            refine RunAt.done (by kernel_rfl) ?_
            refine kS_nrm ?_
            refine Runs.ret ?_
            refine kS_ret ?_
            obtain rfl := Option.some.inj h
            exact ⟨Out.ret_ne, (by kernel_rfl)⟩
        | false =>
          replace h := ite_f hb_5 h
          refine RunAt.chunk 30 [⟨.tup [], []⟩, ⟨.tup [], []⟩, ⟨.tup [], []⟩, ⟨.d (.bool false), []⟩, ⟨.d (.bool false), []⟩, ⟨.tup [], []⟩, ⟨.tup [], []⟩, ⟨.tup [], []⟩, ⟨.d (.bool false), []⟩, ⟨.d (.bool false), []⟩, ⟨.tup [], []⟩, ⟨.tup [], []⟩, ⟨.tup [], []⟩, ⟨.d (.bool false), []⟩, ⟨.d (.bool false), []⟩, ⟨.tup [], []⟩, ⟨.tup [], []⟩, ⟨.tup [], []⟩, ⟨.d (.bool false), []⟩, ⟨.d (.bool false), []⟩, ⟨.tup [], []⟩, ⟨.tup [], []⟩, ⟨.tup [], []⟩, ⟨.d (.bool false), []⟩, ⟨.d (.bool false), []⟩, ⟨.tup [], []⟩, ⟨.tup [], []⟩, ⟨.tup [], []⟩, ⟨.d (.bool false), []⟩, ⟨.d (.bool false), []⟩] (by kernel_rfl) ?_
          refine RunAt.done (by kernel_rfl) ?_
          refine kS_nrm ?_
          refine Runs.ret ?_
          refine kS_ret ?_
          obtain rfl := Option.some.inj h
          exact ⟨Out.ret_ne, (by kernel_rfl)⟩
      | false =>
        replace h := ite_f hb_4 h
        refine RunAt.chunk 35 [⟨.tup [], []⟩, ⟨.tup [], []⟩, ⟨.tup [], []⟩, ⟨.d (.bool false), []⟩, ⟨.d (.bool false), []⟩, ⟨.tup [], []⟩, ⟨.tup [], []⟩, ⟨.tup [], []⟩, ⟨.d (.bool false), []⟩, ⟨.d (.bool false), []⟩, ⟨.tup [], []⟩, ⟨.tup [], []⟩, ⟨.tup [], []⟩, ⟨.d (.bool false), []⟩, ⟨.d (.bool false), []⟩, ⟨.tup [], []⟩, ⟨.tup [], []⟩, ⟨.tup [], []⟩, ⟨.d (.bool false), []⟩, ⟨.d (.bool false), []⟩, ⟨.tup [], []⟩, ⟨.tup [], []⟩, ⟨.tup [], []⟩, ⟨.d (.bool false), []⟩, ⟨.d (.bool false), []⟩, ⟨.tup [], []⟩, ⟨.tup [], []⟩, ⟨.tup [], []⟩, ⟨.d (.bool false), []⟩, ⟨.d (.bool false), []⟩, ⟨.tup [], []⟩, ⟨.tup [], []⟩, ⟨.tup [], []⟩, ⟨.d (.bool false), []⟩, ⟨.d (.bool false), []⟩] (by kernel_rfl) ?_
        refine RunAt.done (by kernel_rfl) ?_
        refine kS_nrm ?_
        refine Runs.ret ?_
        refine kS_ret ?_
        obtain rfl := Option.some.inj h
        exact ⟨Out.ret_ne, (by kernel_rfl)⟩
    | false =>
      replace h := ite_f hb_3 h
      refine RunAt.chunk 40 [⟨.tup [], []⟩, ⟨.tup [], []⟩, ⟨.tup [], []⟩, ⟨.d (.bool false), []⟩, ⟨.d (.bool false), []⟩, ⟨.tup [], []⟩, ⟨.tup [], []⟩, ⟨.tup [], []⟩, ⟨.d (.bool false), []⟩, ⟨.d (.bool false), []⟩, ⟨.tup [], []⟩, ⟨.tup [], []⟩, ⟨.tup [], []⟩, ⟨.d (.bool false), []⟩, ⟨.d (.bool false), []⟩, ⟨.tup [], []⟩, ⟨.tup [], []⟩, ⟨.tup [], []⟩, ⟨.d (.bool false), []⟩, ⟨.d (.bool false), []⟩, ⟨.tup [], []⟩, ⟨.tup [], []⟩, ⟨.tup [], []⟩, ⟨.d (.bool false), []⟩, ⟨.d (.bool false), []⟩, ⟨.tup [], []⟩, ⟨.tup [], []⟩, ⟨.tup [], []⟩, ⟨.d (.bool false), []⟩, ⟨.d (.bool false), []⟩, ⟨.tup [], []⟩, ⟨.tup [], []⟩, ⟨.tup [], []⟩, ⟨.d (.bool false), []⟩, ⟨.d (.bool false), []⟩, ⟨.tup [], []⟩, ⟨.tup [], []⟩, ⟨.tup [], []⟩, ⟨.d (.bool false), []⟩, ⟨.d (.bool false), []⟩] (by kernel_rfl) ?_
      refine RunAt.done (by kernel_rfl) ?_
      refine kS_nrm ?_
      refine Runs.ret ?_
      refine kS_ret ?_
      obtain rfl := Option.some.inj h
      exact ⟨Out.ret_ne, (by kernel_rfl)⟩
  | false =>
    replace h := ite_f hb_2 h
    refine Runs.cond_f (by kernel_rfl) ?_
    refine Runs.skip ?_
    refine kS_nrm ?_
    refine Runs.seq ?_
    refine Runs.seq ?_
    refine Runs.ops ?_
    refine RunAt.chunk 1 [⟨.d (.sl (List.map (D.int .u8) t9)), []⟩] (by kernel_rfl) ?_
    refine RunAt.cut (some 76) .bytesStr [] none [.d (.sl (List.map (D.int .u8) t9))] (.d (.str (b2s t9))) [] (by kernel_rfl) (by kernel_rfl) (by kernel_rfl) (cut_bs _) ?_
    refine RunAt.chunk 2 [⟨.d (.sl (List.map (D.int .u8) y7)), []⟩, ⟨.d (.int .i64 n1), []⟩] (by kernel_rfl) ?_
    obtain ⟨z_2, hz_2, h⟩ := bind_s h
    refine RunAt.cut (some 79) (.subsl 1 false true false) [] none [.d (.sl (List.map (D.int .u8) y7)), .d (.int .i64 n1)] (.d (.sl (List.map (D.int .u8) z_2))) [] (by kernel_rfl) (by kernel_rfl) (by kernel_rfl) (cut_slFT hz_2 (fun _ => rfl)) ?_
    refine RunAt.cut (some 80) .bytesStr [] none [.d (.sl (List.map (D.int .u8) z_2))] (.d (.str (b2s z_2))) [] (by kernel_rfl) (by kernel_rfl) (by kernel_rfl) (cut_bs _) ?_
    refine RunAt.chunk 2 [⟨.d (.bool ((b2s t9) != (b2s z_2))), []⟩, ⟨.d (.bool ((b2s t9) != (b2s z_2))), []⟩] (by kernel_rfl) ?_
    cases hb_11 : (((b2s t9) != (b2s z_2)) : Bool) with
    | true =>
      replace h := ite_t hb_11 h
      refine RunAt.chunk 13 [⟨.tup [], []⟩, ⟨.tup [], []⟩, ⟨.tup [], []⟩, ⟨.tup [], []⟩, ⟨.tup [], []⟩, ⟨.tup [], []⟩, ⟨.tup [], []⟩, ⟨.d (.bool true), []⟩, ⟨.d (.bool true), []⟩, ⟨.tup [], []⟩, ⟨.tup [], []⟩, ⟨.tup [], []⟩, ⟨.d (.bool true), []⟩] (by kernel_rfl) ?_
      refine RunAt.done (by kernel_rfl) ?_
      refine kS_nrm ?_
      refine Runs.cond_t (by kernel_rfl) ?_
      refine Runs.seq ?_
      refine Runs.ops ?_
      refine RunAt.chunk 1 [⟨.d (.bool false), []⟩] (by kernel_rfl) ?_
      refine RunAt.done (by kernel_rfl) ?_
      refine kS_nrm ?_
      refine Runs.ret ?_
      refine kS_ret ?_
      obtain rfl := Option.some.inj h
      exact ⟨Out.ret_ne, (by kernel_rfl)⟩
    | false =>
      replace h := ite_f hb_11 h
      refine RunAt.chunk 1 [⟨.ptr [20] 0 0, []⟩] (by kernel_rfl) ?_
      obtain ⟨r_12, hr_12, h⟩ := bind_s h
      have hc_12 := index_Source_Left_L b_20 r_12 hr_12
      refine RunAt.cut (some 84) (.callf 29) [] none [.ptr [20] 0 0] (.d (.int .i64 r_12)) [([20], some (.cells [.d (.sl (List.map (D.int .u8) b_20.b)), .d (.int .i64 b_20.e)] 0))] (by kernel_rfl) (by kernel_rfl) (by kernel_rfl) (cut_call (call_of (ws := []) (us := [([20], some (.cells [.d (.sl (List.map (D.int .u8) b_20.b)), .d (.int .i64 b_20.e)] 0))]) (by kernel_rfl) (by kernel_rfl) hc_12 (by kernel_rfl) (by kernel_rfl))) ?_
      refine RunAt.chunk 1 [⟨.d (.sl (List.map (D.int .u8) y7)), []⟩] (by kernel_rfl) ?_
      refine RunAt.cut (some 86) .lenL [] none [.d (.sl (List.map (D.int .u8) y7))] (.d (.int .i64 (y7.length : Int))) [] (by kernel_rfl) (by kernel_rfl) (by kernel_rfl) (cut_len _) ?_
      refine RunAt.chunk 5 [⟨.d (.int .i64 n1), []⟩, ⟨.d (.int .i64 (IntKind.wrap .i64 ((y7.length : Int) - n1))), []⟩, ⟨.d (.bool (r_12 != (IntKind.wrap .i64 ((y7.length : Int) - n1)))), []⟩, ⟨.d (.bool (r_12 != (IntKind.wrap .i64 ((y7.length : Int) - n1)))), []⟩, ⟨.d (.bool (r_12 != (IntKind.wrap .i64 ((y7.length : Int) - n1)))), []⟩] (by kernel_rfl) ?_
      cases hb_12 : ((r_12 != (IntKind.wrap .i64 ((y7.length : Int) - n1))) : Bool) with
      | true =>
        replace h := ite_t hb_12 h
        refine RunAt.chunk 4 [⟨.tup [], []⟩, ⟨.tup [], []⟩, ⟨.tup [], []⟩, ⟨.d (.bool true), []⟩] (by kernel_rfl) ?_
        refine RunAt.done (by kernel_rfl) ?_
        refine kS_nrm ?_
        refine Runs.cond_t (by kernel_rfl) ?_
        refine Runs.seq ?_
        refine Runs.ops ?_
        refine RunAt.chunk 1 [⟨.d (.bool false), []⟩] (by kernel_rfl) ?_
        refine RunAt.done (by kernel_rfl) ?_
        refine kS_nrm ?_
        refine Runs.ret ?_
        refine kS_ret ?_
        obtain rfl := Option.some.inj h
        exact ⟨Out.ret_ne, (by kernel_rfl)⟩
      | false =>
        replace h := ite_f hb_12 h
        refine RunAt.chunk 1 [⟨.ptr [20] 0 0, []⟩] (by kernel_rfl) ?_
        obtain ⟨r_13, hr_13, h⟩ := bind_s h
        have hc_13 := index_Source_Err_L b_20 r_13 hr_13
        refine RunAt.cut (some 93) (.callf 28) [] none [.ptr [20] 0 0] (.d (.int .i64 r_13)) [([20], some (.cells [.d (.sl (List.map (D.int .u8) b_20.b)), .d (.int .i64 b_20.e)] 0))] (by kernel_rfl) (by kernel_rfl) (by kernel_rfl) (cut_call (call_of (ws := []) (us := [([20], some (.cells [.d (.sl (List.map (D.int .u8) b_20.b)), .d (.int .i64 b_20.e)] 0))]) (by kernel_rfl) (by kernel_rfl) hc_13 (by kernel_rfl) (by kernel_rfl))) ?_
        refine RunAt.chunk 2 [⟨.d (.bool (r_13 != 0)), []⟩, ⟨.d (.bool (r_13 != 0)), []⟩] (by kernel_rfl) ?_
        refine RunAt.done (by kernel_rfl) ?_
        refine kS_nrm ?_
        cases hb_13 : ((r_13 != 0) : Bool) with
        | true =>
          replace h := ite_t hb_13 h
          refine Runs.cond_t (by kernel_rfl) ?_
          refine Runs.seq ?_
          refine Runs.ops ?_
          refine RunAt.chunk 1 [⟨.d (.bool false), []⟩] (by kernel_rfl) ?_
          refine RunAt.done (by kernel_rfl) ?_
          refine kS_nrm ?_
          refine Runs.ret ?_
          refine kS_ret ?_
          obtain rfl := Option.some.inj h
          exact ⟨Out.ret_ne, (by kernel_rfl)⟩
        | false =>
          replace h := ite_f hb_13 h
          refine Runs.cond_f (by kernel_rfl) ?_
          refine Runs.skip ?_
          refine kS_nrm ?_
          refine Runs.seq ?_
          refine Runs.ops ?_
          refine RunAt.chunk 1 [⟨.d (.int .i64 0), []⟩] (by kernel_rfl) ?_
          refine RunAt.done (by kernel_rfl) ?_
          refine kS_nrm ?_
          refine Runs.seq ?_
          refine Runs.seq ?_
          refine Runs.ops ?_
          refine RunAt.chunk 2 [⟨.d (.int .i64 n1), []⟩, ⟨.d (.sl (List.map (D.int .u8) y7)), []⟩] (by kernel_rfl) ?_
          refine RunAt.cut (some 98) .lenL [] none [.d (.sl (List.map (D.int .u8) y7))] (.d (.int .i64 (y7.length : Int))) [] (by kernel_rfl) (by kernel_rfl) (by kernel_rfl) (cut_len _) ?_
          refine RunAt.chunk 1 [⟨.d (.bool (decide (n1 < (y7.length : Int)))), []⟩] (by kernel_rfl) ?_
          refine RunAt.done (by kernel_rfl) ?_
          refine kS_nrm ?_
          cases hb_14 : ((decide (n1 < (y7.length : Int))) : Bool) with
          | true =>
            replace h := ite_t hb_14 h
            refine Runs.cond_t (by kernel_rfl) ?_
            refine Runs.ops ?_
            refine RunAt.chunk 1 [⟨.d (.int .i64 3), []⟩] (by kernel_rfl) ?_
            refine RunAt.done (by kernel_rfl) ?_
            refine kS_nrm ?_
            refine Runs.canon (hansomlaw19_IndexShort_h34 b_20 kind2 3) (Canon.nil (by kernel_rfl)) ?_
            exact hansomlaw19_IndexShort_j34_ok b_ n_ kind_ b_20 kind2 3 r h
          | false =>
            replace h := ite_f hb_14 h
            refine Runs.cond_f (by kernel_rfl) ?_
            refine Runs.skip ?_
            refine kS_nrm ?_
            refine Runs.canon (hansomlaw19_IndexShort_h34 b_20 kind2 0) (Canon.nil (by kernel_rfl)) ?_
            exact hansomlaw19_IndexShort_j34_ok b_ n_ kind_ b_20 kind2 0 r h
theorem hansomlaw19_IndexShort_ok (b_ : (List Int)) (n_ : Int) (kind_ : Int) (r : Bool) (h : hansomlaw19_IndexShort b_ n_ kind_ = some r) : Runs L F4.body ⟨tmOf [.d (.sl (List.map (D.int .u8) b_)), .d (.int .i64 n_), .d (.int .i64 kind_)] 0, updW (fun _ => none) []⟩ (hansomlaw19_IndexShort_Q b_ n_ kind_ r) := by
  unfold hansomlaw19_IndexShort at h
  refine Runs.seq ?_
  refine Runs.ops ?_
  refine RunAt.chunk 1 [⟨.d (.bool false), []⟩] (by kernel_rfl) ?_
  refine RunAt.done (by kernel_rfl) ?_
  refine kS_nrm ?_
  refine Runs.seq ?_
  refine Runs.ops ?_
  refine RunAt.chunk 2 [⟨.d (.sl (List.map (D.int .u8) b_)), []⟩, ⟨.d (.sl (List.map (D.int .u8) b_)), []⟩] (by kernel_rfl) ?_
  refine RunAt.cut (some 16) .lenL [] none [.d (.sl (List.map (D.int .u8) b_))] (.d (.int .i64 (b_.length : Int))) [] (by kernel_rfl) (by kernel_rfl) (by kernel_rfl) (cut_len _) ?_
  refine RunAt.chunk 1 [⟨.d (.int .i64 (mnI (b_.length : Int) 20)), []⟩] (by kernel_rfl) ?_
  obtain ⟨z_1, hz_1, h⟩ := bind_s h
  refine RunAt.cut (some 18) (.subsl 1 false true false) [] none [.d (.sl (List.map (D.int .u8) b_)), .d (.int .i64 (mnI (b_.length : Int) 20))] (.d (.sl (List.map (D.int .u8) z_1))) [] (by kernel_rfl) (by kernel_rfl) (by kernel_rfl) (cut_slFT hz_1 (fun _ => rfl)) ?_
  refine RunAt.chunk 1 [⟨.d (.sl (List.map (D.int .u8) z_1)), []⟩] (by kernel_rfl) ?_
  refine RunAt.done (by kernel_rfl) ?_
  refine kS_nrm ?_
  refine Runs.seq ?_
  refine Runs.ops ?_
  refine RunAt.chunk 1 [⟨.d (.sl (List.map (D.int .u8) z_1)), []⟩] (by kernel_rfl) ?_
  obtain ⟨r_1, hr_1, h⟩ := bind_s h
  have hc_1 := index_From_L z_1 r_1 hr_1
  refine RunAt.cut (some 20) (.callf 25) [] none [.d (.sl (List.map (D.int .u8) z_1))] (.ptr [20] 0 0) [([20], some (.cells [.d (.sl (List.map (D.int .u8) r_1.b)), .d (.int .i64 r_1.e)] 0))] (by kernel_rfl) (by kernel_rfl) (by kernel_rfl) (cut_call (call_of (ws := []) (us := []) (by kernel_rfl) (by kernel_rfl) hc_1 (by kernel_rfl) (by kernel_rfl))) ?_
  refine RunAt.chunk 1 [⟨.ptr [20] 0 0, []⟩] (by kernel_rfl) ?_
  refine RunAt.done (by kernel_rfl) ?_
  refine kS_nrm ?_
  refine Runs.seq ?_
  refine Runs.ops ?_
  refine RunAt.chunk 2 [⟨.ptr [20] 0 0, []⟩, ⟨.d (.int .i64 n_), []⟩] (by kernel_rfl) ?_
  obtain ⟨r_2, hr_2, h⟩ := bind_s h
  have hc_2 := index_Source_Take_L r_1 n_ r_2 hr_2
  refine RunAt.cut (some 23) (.callf 26) [] none [.ptr [20] 0 0, .d (.int .i64 n_)] (.d (.sl (List.map (D.int .u8) r_2.1))) [([20], some (.cells [.d (.sl (List.map (D.int .u8) r_2.2.b)), .d (.int .i64 r_2.2.e)] 0))] (by kernel_rfl) (by kernel_rfl) (by kernel_rfl) (cut_call (call_of (ws := []) (us := [([20], some (.cells [.d (.sl (List.map (D.int .u8) r_2.2.b)), .d (.int .i64 r_2.2.e)] 0))]) (by kernel_rfl) (by kernel_rfl) hc_2 (by kernel_rfl) (by kernel_rfl))) ?_
  refine RunAt.chunk 1 [⟨.d (.sl (List.map (D.int .u8) r_2.1)), []⟩] (by kernel_rfl) ?_
  refine RunAt.done (by kernel_rfl) ?_
  refine kS_nrm ?_
  refine Runs.seq ?_
  refine Runs.seq ?_
  refine Runs.ops ?_
  refine RunAt.chunk 3 [⟨.d (.int .i64 n_), []⟩, ⟨.d (.bool (decide (n_ < 0))), []⟩, ⟨.d (.bool (decide (n_ < 0))), []⟩] (by kernel_rfl) ?_
  cases hb_1 : ((decide (n_ < 0)) : Bool) with
  | true =>
    replace h := ite_t hb_1 h
    refine RunAt.chunk 5 [⟨.tup [], []⟩, ⟨.tup [], []⟩, ⟨.tup [], []⟩, ⟨.tup [], []⟩, ⟨.d (.bool true), []⟩] (by kernel_rfl) ?_
    refine RunAt.done (by kernel_rfl) ?_
    refine kS_nrm ?_
    refine Runs.canon (hansomlaw19_IndexShort_h11 r_2.2 n_ kind_ z_1 r_2.1 true) (Canon.nil (by kernel_rfl)) ?_
    exact hansomlaw19_IndexShort_j11_ok b_ n_ kind_ r_2.2 n_ kind_ z_1 r_2.1 true r h
  | false =>
    replace h := ite_f hb_1 h
    refine RunAt.chunk 2 [⟨.d (.int .i64 n_), []⟩, ⟨.d (.sl (List.map (D.int .u8) z_1)), []⟩] (by kernel_rfl) ?_
    refine RunAt.cut (some 29) .lenL [] none [.d (.sl (List.map (D.int .u8) z_1))] (.d (.int .i64 (z_1.length : Int))) [] (by kernel_rfl) (by kernel_rfl) (by kernel_rfl) (cut_len _) ?_
    refine RunAt.chunk 2 [⟨.d (.bool (decide (n_ > (z_1.length : Int)))), []⟩, ⟨.d (.bool (decide (n_ > (z_1.length : Int)))), []⟩] (by kernel_rfl) ?_
    refine RunAt.done (by kernel_rfl) ?_
    refine kS_nrm ?_
    refine Runs.canon (hansomlaw19_IndexShort_h11 r_2.2 n_ kind_ z_1 r_2.1 (decide (n_ > (z_1.length : Int)))) (Canon.nil (by kernel_rfl)) ?_
    exact hansomlaw19_IndexShort_j11_ok b_ n_ kind_ r_2.2 n_ kind_ z_1 r_2.1 (decide (n_ > (z_1.length : Int))) r h
theorem hansomlaw19_IndexShort_L (b_ : (List Int)) (n_ : Int) (kind_ : Int) (r : Bool) (h : hansomlaw19_IndexShort b_ n_ kind_ = some r) : L 4 [.d (.sl (List.map (D.int .u8) b_)), .d (.int .i64 n_), .d (.int .i64 kind_)] = some (.d (.bool r), [.d (.sl (List.map (D.int .u8) b_)), .d (.int .i64 n_), .d (.int .i64 kind_)]) := by
  obtain ⟨p, ⟨hne, hf⟩, hr⟩ := hansomlaw19_IndexShort_ok b_ n_ kind_ r h
  obtain ⟨k, hk⟩ := run_of (F := F4) (args := [.d (.sl (List.map (D.int .u8) b_)), .d (.int .i64 n_), .d (.int .i64 kind_)]) (ap := [.d (.sl (List.map (D.int .u8) b_)), .d (.int .i64 n_), .d (.int .i64 kind_)]) (bx0 := updW (fun _ => none) []) rfl rfl (by kernel_rfl) ⟨p, ⟨hne, hf⟩, hr⟩
  exact lim_run (k := k) rfl hk
def hansomref18_Index_h8 (n0 : Int) : St := ⟨tab [(0, .d (.int .i64 n0))], tabB []⟩
def hansomref18_Index_Q (n_ : Int) (r : (List UInt8)) (p : Out × St) : Prop := (∀ i, p.1 ≠ .exit i) ∧ finF F17 [.d (.int .i64 n_)] p.2 = some (.d (.str r), [.d (.int .i64 n_)])
theorem hansomref18_Index_j8_ok (n_ : Int) (n0 : Int) (r : (List UInt8)) (h : hansomref18_Index_j8 n0 = some r) : Runs L F17b8 (hansomref18_Index_h8 n0) (hansomref18_Index_Q n_ r) := by
  unfold hansomref18_Index_j8 at h
  refine Runs.seq ?_
  refine Runs.seq ?_
  refine Runs.ops ?_
  refine RunAt.chunk 2 [⟨.d (.int .i64 n0), []⟩, ⟨.d (.bool (decide (n0 < 128))), []⟩] (by kernel_rfl) ?_
  refine RunAt.done (by kernel_rfl) ?_
  refine kS_nrm ?_
  cases hb_2 : ((decide (n0 < 128)) : Bool) with
  | true =>
    replace h := ite_t hb_2 h
    refine Runs.cond_t (by kernel_rfl) ?_
    refine Runs.seq ?_
    refine Runs.ops ?_
    refine RunAt.chunk 3 [⟨.d (.int .i64 n0), []⟩, ⟨.d (.int .u8 (IntKind.wrap .u8 n0)), []⟩, ⟨.ref [13] 0 0 (List.map (D.int .u8) ([(IntKind.wrap .u8 n0)] : List Int)).length 1, [([13], some (.arr (List.map (D.int .u8) ([(IntKind.wrap .u8 n0)] : List Int)) 0 false))]⟩] (by kernel_rfl) ?_
    refine RunAt.cut (some 14) .bytesStr [] none [.ref [13] 0 0 (List.map (D.int .u8) ([(IntKind.wrap .u8 n0)] : List Int)).length 1] (.d (.str (b2s ([(IntKind.wrap .u8 n0)] : List Int)))) [] (by kernel_rfl) (by kernel_rfl) (by kernel_rfl) (cut_bsR (l := ([(IntKind.wrap .u8 n0)] : List Int)) (fz := false) (by kernel_rfl) (by kernel_rfl) rfl) ?_
    refine RunAt.chunk 1 [⟨.d (.str (b2s ([(IntKind.wrap .u8 n0)] : List Int))), []⟩] (by kernel_rfl) ?_
    refine RunAt.done (by kernel_rfl) ?_
    refine kS_nrm ?_
    refine Runs.ret ?_
    refine kS_ret ?_
    obtain rfl := Option.some.inj h
    exact ⟨Out.ret_ne, (by kernel_rfl)⟩
  | false =>
    replace h := ite_f hb_2 h
    refine Runs.cond_f (by kernel_rfl) ?_
    refine Runs.skip ?_
    refine kS_nrm ?_
    refine Runs.seq ?_
    refine Runs.ops ?_
    refine RunAt.chunk 8 [⟨.d (.int .i64 n0), []⟩, ⟨.d (.int .i64 (IntKind.wrap .i64 (Int.tdiv n0 256))), []⟩, ⟨.d (.int .i64 (IntKind.wrap .i64 ((IntKind.wrap .i64 (Int.tdiv n0 256)) + 128))), []⟩, ⟨.d (.int .u8 (IntKind.wrap .u8 (IntKind.wrap .i64 ((IntKind.wrap .i64 (Int.tdiv n0 256)) + 128)))), []⟩, ⟨.d (.int .i64 n0), []⟩, ⟨.d (.int .i64 (Int.tmod n0 256)), []⟩, ⟨.d (.int .u8 (IntKind.wrap .u8 (Int.tmod n0 256))), []⟩, ⟨.ref [22] 0 0 (List.map (D.int .u8) ([(IntKind.wrap .u8 (IntKind.wrap .i64 ((IntKind.wrap .i64 (Int.tdiv n0 256)) + 128))), (IntKind.wrap .u8 (Int.tmod n0 256))] : List Int)).length 1, [([22], some (.arr (List.map (D.int .u8) ([(IntKind.wrap .u8 (IntKind.wrap .i64 ((IntKind.wrap .i64 (Int.tdiv n0 256)) + 128))), (IntKind.wrap .u8 (Int.tmod n0 256))] : List Int)) 0 false))]⟩] (by kernel_rfl) ?_
    refine RunAt.cut (some 23) .bytesStr [] none [.ref [22] 0 0 (List.map (D.int .u8) ([(IntKind.wrap .u8 (IntKind.wrap .i64 ((IntKind.wrap .i64 (Int.tdiv n0 256)) + 128))), (IntKind.wrap .u8 (Int.tmod n0 256))] : List Int)).length 1] (.d (.str (b2s ([(IntKind.wrap .u8 (IntKind.wrap .i64 ((IntKind.wrap .i64 (Int.tdiv n0 256)) + 128))), (IntKind.wrap .u8 (Int.tmod n0 256))] : List Int)))) [] (by kernel_rfl) (by kernel_rfl) (by kernel_rfl) (cut_bsR (l := ([(IntKind.wrap .u8 (IntKind.wrap .i64 ((IntKind.wrap .i64 (Int.tdiv n0 256)) + 128))), (IntKind.wrap .u8 (Int.tmod n0 256))] : List Int)) (fz := false) (by kernel_rfl) (by kernel_rfl) rfl) ?_
    refine RunAt.chunk 1 [⟨.d (.str (b2s ([(IntKind.wrap .u8 (IntKind.wrap .i64 ((IntKind.wrap .i64 (Int.tdiv n0 256)) + 128))), (IntKind.wrap .u8 (Int.tmod n0 256))] : List Int))), []⟩] (by kernel_rfl) ?_
    refine RunAt.done (by kernel_rfl) ?_
    refine kS_nrm ?_
    refine Runs.ret ?_
    obtain rfl := Option.some.inj h
    exact ⟨Out.ret_ne, (by kernel_rfl)⟩
theorem hansomref18_Index_ok (n_ : Int) (r : (List UInt8)) (h : hansomref18_Index n_ = some r) : Runs L F17.body ⟨tmOf [.d (.int .i64 n_)] 0, updW (fun _ => none) []⟩ (hansomref18_Index_Q n_ r) := by
  unfold hansomref18_Index at h
  refine Runs.seq ?_
  refine Runs.ops ?_
  refine RunAt.chunk 1 [⟨.d (.str ([] : List UInt8)), []⟩] (by kernel_rfl) ?_
  refine RunAt.done (by kernel_rfl) ?_
  refine kS_nrm ?_
  refine Runs.seq ?_
  refine Runs.seq ?_
  refine Runs.ops ?_
  refine RunAt.chunk 3 [⟨.d (.int .i64 n_), []⟩, ⟨.d (.bool (decide (n_ < 0))), []⟩, ⟨.d (.bool (decide (n_ < 0))), []⟩] (by kernel_rfl) ?_
  cases hb_1 : ((decide (n_ < 0)) : Bool) with
  | true =>
    replace h := ite_t hb_1 h
    refine RunAt.chunk 3 [⟨.tup [], []⟩, ⟨.tup [], []⟩, ⟨.d (.bool true), []⟩] (by kernel_rfl) ?_
    refine RunAt.done (by kernel_rfl) ?_
    refine kS_nrm ?_
    refine Runs.cond_t (by kernel_rfl) ?_
    refine Runs.ops ?_
    refine RunAt.chunk 1 [⟨.d (.int .i64 0), []⟩] (by kernel_rfl) ?_
    refine RunAt.done (by kernel_rfl) ?_
    refine kS_nrm ?_
    refine Runs.canon (hansomref18_Index_h8 0) (Canon.nil (by kernel_rfl)) ?_
    exact hansomref18_Index_j8_ok n_ 0 r h
  | false =>
    replace h := ite_f hb_1 h
    refine RunAt.chunk 3 [⟨.d (.int .i64 n_), []⟩, ⟨.d (.bool (decide (n_ > 32767))), []⟩, ⟨.d (.bool (decide (n_ > 32767))), []⟩] (by kernel_rfl) ?_
    refine RunAt.done (by kernel_rfl) ?_
    refine kS_nrm ?_
    cases hb_3 : ((decide (n_ > 32767)) : Bool) with
    | true =>
      replace h := ite_t hb_3 h
      refine Runs.cond_t (by kernel_rfl) ?_
      refine Runs.ops ?_
      refine RunAt.chunk 1 [⟨.d (.int .i64 0), []⟩] (by kernel_rfl) ?_
      refine RunAt.done (by kernel_rfl) ?_
      refine kS_nrm ?_
      refine Runs.canon (hansomref18_Index_h8 0) (Canon.nil (by kernel_rfl)) ?_
      exact hansomref18_Index_j8_ok n_ 0 r h
    | false =>
      replace h := ite_f hb_3 h
      refine Runs.cond_f (by kernel_rfl) ?_
      refine Runs.skip ?_
      refine kS_nrm ?_
      refine Runs.canon (hansomref18_Index_h8 n_) (Canon.nil (by kernel_rfl)) ?_
      exact hansomref18_Index_j8_ok n_ n_ r h
theorem hansomref18_Index_L (n_ : Int) (r : (List UInt8)) (h : hansomref18_Index n_ = some r) : L 17 [.d (.int .i64 n_)] = some (.d (.str r), [.d (.int .i64 n_)]) := by
  obtain ⟨p, ⟨hne, hf⟩, hr⟩ := hansomref18_Index_ok n_ r h
  obtain ⟨k, hk⟩ := run_of (F := F17) (args := [.d (.int .i64 n_)]) (ap := [.d (.int .i64 n_)]) (bx0 := updW (fun _ => none) []) rfl rfl (by kernel_rfl) ⟨p, ⟨hne, hf⟩, hr⟩
  exact lim_run (k := k) rfl hk
def hansomref18_Bytes_h8 (n0 : Int) (many1 : Int) (s5 : (List UInt8)) (i6 : Int) : St := ⟨tab [(0, .d (.int .u64 n0)), (1, .d (.int .i64 many1)), (5, .d (.str s5)), (6, .d (.int .i64 i6))], tabB []⟩
def hansomref18_Bytes_h21 (s5 : (List UInt8)) : St := ⟨tab [(5, .d (.str s5))], tabB []⟩
def hansomref18_Bytes_Q (n_ : Int) (many_ : Int) (r : (List UInt8)) (p : Out × St) : Prop := (∀ i, p.1 ≠ .exit i) ∧ finF F21 [.d (.int .u64 n_), .d (.int .i64 many_)] p.2 = some (.d (.str r), [.d (.int .u64 n_), .d (.int .i64 many_)])
def hansomref18_Bytes_P8 (n_ : Int) (many_ : Int) (many1 : Int) (e : (List UInt8)) (p : Out × St) : Prop := p.1 = .exit 0 ∧ ∃ g : Unit, Canon [] [5] [] p.2 (hansomref18_Bytes_h21 e)
theorem hansomref18_Bytes_l8_ok (n_ : Int) (many_ : Int) (n0 : Int) (many1 : Int) (s5 : (List UInt8)) (i6 : Int) (r : (Lp (Int × (List UInt8) × Int) (List UInt8))) (h : hansomref18_Bytes_l8 n0 many1 s5 i6 = some r) : Runs L F21l8 (hansomref18_Bytes_h8 n0 many1 s5 i6) (LQ [] [0, 1, 5, 6] [] (fun (x : (Int × (List UInt8) × Int)) (g : Unit) => hansomref18_Bytes_h8 x.1 many1 x.2.1 x.2.2) (hansomref18_Bytes_P8 n_ many_ many1) r) := by
  unfold hansomref18_Bytes_l8 at h
  refine Runs.seq ?_
  refine Runs.seq ?_
  refine Runs.ops ?_
  refine RunAt.chunk 3 [⟨.d (.int .i64 i6), []⟩, ⟨.d (.int .i64 many1), []⟩, ⟨.d (.bool (decide (i6 < many1))), []⟩] (by kernel_rfl) ?_
  refine RunAt.done (by kernel_rfl) ?_
  refine kS_nrm ?_
  cases hb_1 : ((decide (i6 < many1)) : Bool) with
  | true =>
    replace h := ite_t hb_1 h
    refine Runs.cond_t (by kernel_rfl) ?_
    refine Runs.skip ?_
    refine kS_nrm ?_
    refine Runs.seq ?_
    refine Runs.block ?_
    refine Runs.seq ?_
    refine Runs.ops ?_
    refine RunAt.chunk 5 [⟨.d (.str s5), []⟩, ⟨.d (.int .u64 n0), []⟩, ⟨.d (.int .u64 (Int.tmod n0 256)), []⟩, ⟨.d (.int .u8 (IntKind.wrap .u8 (Int.tmod n0 256))), []⟩, ⟨.ref [16] 0 0 (List.map (D.int .u8) ([(IntKind.wrap .u8 (Int.tmod n0 256))] : List Int)).length 1, [([16], some (.arr (List.map (D.int .u8) ([(IntKind.wrap .u8 (Int.tmod n0 256))] : List Int)) 0 false))]⟩] (by kernel_rfl) ?_
    refine RunAt.cut (some 17) .bytesStr [] none [.ref [16] 0 0 (List.map (D.int .u8) ([(IntKind.wrap .u8 (Int.tmod n0 256))] : List Int)).length 1] (.d (.str (b2s ([(IntKind.wrap .u8 (Int.tmod n0 256))] : List Int)))) [] (by kernel_rfl) (by kernel_rfl) (by kernel_rfl) (cut_bsR (l := ([(IntKind.wrap .u8 (Int.tmod n0 256))] : List Int)) (fz := false) (by kernel_rfl) (by kernel_rfl) rfl) ?_
    obtain ⟨z_1, hz_1, h⟩ := bind_s h
    refine RunAt.cut (some 18) (.bin .add) [] none [.d (.str s5), .d (.str (b2s ([(IntKind.wrap .u8 (Int.tmod n0 256))] : List Int)))] (.d (.str z_1)) [] (by kernel_rfl) (by kernel_rfl) (by kernel_rfl) (cut_cat hz_1) ?_
    refine RunAt.chunk 1 [⟨.d (.str z_1), []⟩] (by kernel_rfl) ?_
    refine RunAt.done (by kernel_rfl) ?_
    refine kS_nrm ?_
    refine Runs.ops ?_
    refine RunAt.chunk 3 [⟨.d (.int .u64 n0), []⟩, ⟨.d (.int .u64 (IntKind.wrap .u64 (Int.tdiv n0 256))), []⟩, ⟨.d (.int .u64 (IntKind.wrap .u64 (Int.tdiv n0 256))), []⟩] (by kernel_rfl) ?_
    refine RunAt.done (by kernel_rfl) ?_
    refine kB_nrm ?_
    refine kS_nrm ?_
    refine Runs.ops ?_
    refine RunAt.chunk 3 [⟨.d (.int .i64 i6), []⟩, ⟨.d (.int .i64 (IntKind.wrap .i64 (i6 + 1))), []⟩, ⟨.d (.int .i64 (IntKind.wrap .i64 (i6 + 1))), []⟩] (by kernel_rfl) ?_
    refine RunAt.done (by kernel_rfl) ?_
    obtain rfl := Option.some.inj h
    exact ⟨rfl, (), (Canon.nil (by kernel_rfl))⟩
  | false =>
    replace h := ite_f hb_1 h
    refine Runs.cond_f (by kernel_rfl) ?_
    refine Runs.exit ?_
    refine kS_exit ?_
    obtain rfl := Option.some.inj h
    exact ⟨nofun, rfl, (), (Canon.nil (by kernel_rfl))⟩
theorem hansomref18_Bytes_ok (n_ : Int) (many_ : Int) (r : (List UInt8)) (h : hansomref18_Bytes n_ many_ = some r) : Runs L F21.body ⟨tmOf [.d (.int .u64 n_), .d (.int .i64 many_)] 0, updW (fun _ => none) []⟩ (hansomref18_Bytes_Q n_ many_ r) := by
  unfold hansomref18_Bytes at h
  refine Runs.seq ?_
  refine Runs.ops ?_
  refine RunAt.chunk 1 [⟨.d (.str ([] : List UInt8)), []⟩] (by kernel_rfl) ?_
  refine RunAt.done (by kernel_rfl) ?_
  refine kS_nrm ?_
  refine Runs.seq ?_
  refine Runs.ops ?_
  refine RunAt.chunk 1 [⟨.d (.str ([] : List UInt8)), []⟩] (by kernel_rfl) ?_
  refine RunAt.done (by kernel_rfl) ?_
  refine kS_nrm ?_
  refine Runs.seq ?_
  refine Runs.seq ?_
  refine Runs.ops ?_
  refine RunAt.chunk 1 [⟨.d (.int .i64 0), []⟩] (by kernel_rfl) ?_
  refine RunAt.done (by kernel_rfl) ?_
  refine kS_nrm ?_
  refine Runs.block ?_
  obtain ⟨e_1, he_1, h⟩ := bind_s h
  refine Runs.loop (fun x : (Int × (List UInt8) × Int) => hansomref18_Bytes_l8 x.1 many_ x.2.1 x.2.2) (fun (x : (Int × (List UInt8) × Int)) (g : Unit) => hansomref18_Bytes_h8 x.1 many_ x.2.1 x.2.2) (hansomref18_Bytes_P8 n_ many_ many_) (fun x g r hr => hansomref18_Bytes_l8_ok n_ many_ x.1 many_ x.2.1 x.2.2  r hr) () he_1 (Canon.nil (by kernel_rfl)) ?_
  rintro ⟨o, s⟩ hp
  obtain ⟨ho, g_1, hk_1⟩ := hp
  have ho' : o = .exit 0 := ho
  subst ho'
  refine kB_hit ?_
  refine kS_nrm ?_
  refine Runs.canon _ hk_1 ?_
  refine Runs.seq ?_
  refine Runs.ops ?_
  refine RunAt.chunk 2 [⟨.d (.str e_1), []⟩, ⟨.d (.str e_1), []⟩] (by kernel_rfl) ?_
  refine RunAt.done (by kernel_rfl) ?_
  refine kS_nrm ?_
  refine Runs.ret ?_
  obtain rfl := Option.some.inj h
  exact ⟨Out.ret_ne, (by kernel_rfl)⟩
theorem hansomref18_Bytes_L (n_ : Int) (many_ : Int) (r : (List UInt8)) (h : hansomref18_Bytes n_ many_ = some r) : L 21 [.d (.int .u64 n_), .d (.int .i64 many_)] = some (.d (.str r), [.d (.int .u64 n_), .d (.int .i64 many_)]) := by
  obtain ⟨p, ⟨hne, hf⟩, hr⟩ := hansomref18_Bytes_ok n_ many_ r h
  obtain ⟨k, hk⟩ := run_of (F := F21) (args := [.d (.int .u64 n_), .d (.int .i64 many_)]) (ap := [.d (.int .u64 n_), .d (.int .i64 many_)]) (bx0 := updW (fun _ => none) []) rfl rfl (by kernel_rfl) ⟨p, ⟨hne, hf⟩, hr⟩
  exact lim_run (k := k) rfl hk
def hansomref18_Long_Q (n_ : Int) (r : (List UInt8)) (p : Out × St) : Prop := (∀ i, p.1 ≠ .exit i) ∧ finF F24 [.d (.int .u32 n_)] p.2 = some (.d (.str r), [.d (.int .u32 n_)])
theorem hansomref18_Long_ok (n_ : Int) (r : (List UInt8)) (h : hansomref18_Long n_ = some r) : Runs L F24.body ⟨tmOf [.d (.int .u32 n_)] 0, updW (fun _ => none) []⟩ (hansomref18_Long_Q n_ r) := by
  unfold hansomref18_Long at h
  refine Runs.seq ?_
  refine Runs.ops ?_
  refine RunAt.chunk 1 [⟨.d (.str ([] : List UInt8)), []⟩] (by kernel_rfl) ?_
  refine RunAt.done (by kernel_rfl) ?_
  refine kS_nrm ?_
  refine Runs.seq ?_
  refine Runs.ops ?_
  refine RunAt.chunk 3 [⟨.d (.int .u32 n_), []⟩, ⟨.d (.int .u64 (IntKind.wrap .u64 n_)), []⟩, ⟨.d (.int .u64 (IntKind.wrap .u64 n_)), []⟩] (by kernel_rfl) ?_
  refine RunAt.done (by kernel_rfl) ?_
  refine kS_nrm ?_
  refine Runs.seq ?_
  refine Runs.seq ?_
  refine Runs.ops ?_
  refine RunAt.chunk 2 [⟨.d (.int .u32 n_), []⟩, ⟨.d (.bool (decide (n_ ≤ 128))), []⟩] (by kernel_rfl) ?_
  refine RunAt.done (by kernel_rfl) ?_
  refine kS_nrm ?_
  cases hb_1 : ((decide (n_ ≤ 128)) : Bool) with
  | true =>
    replace h := ite_t hb_1 h
    refine Runs.cond_t (by kernel_rfl) ?_
    refine Runs.seq ?_
    refine Runs.ops ?_
    refine RunAt.chunk 1 [⟨.d (.int .u64 (IntKind.wrap .u64 n_)), []⟩] (by kernel_rfl) ?_
    obtain ⟨r_1, hr_1, h⟩ := bind_s h
    have hc_1 := hansomref18_Bytes_L (IntKind.wrap .u64 n_) 1 r_1 hr_1
    refine RunAt.cut (some 9) (.callf 21) [] none [.d (.int .u64 (IntKind.wrap .u64 n_)), .d (.int .i64 1)] (.d (.str r_1)) [] (by kernel_rfl) (by kernel_rfl) (by kernel_rfl) (cut_call (call_of (ws := []) (us := []) (by kernel_rfl) (by kernel_rfl) hc_1 (by kernel_rfl) (by kernel_rfl))) ?_
    refine RunAt.chunk 1 [⟨.d (.str r_1), []⟩] (by kernel_rfl) ?_
    refine RunAt.done (by kernel_rfl) ?_
    refine kS_nrm ?_
    refine Runs.ret ?_
    refine kS_ret ?_
    obtain rfl := Option.some.inj h
    exact ⟨Out.ret_ne, (by kernel_rfl)⟩
  | false =>
    replace h := ite_f hb_1 h
    refine Runs.cond_f (by kernel_rfl) ?_
    refine Runs.skip ?_
    refine kS_nrm ?_
    refine Runs.seq ?_
    refine Runs.seq ?_
    refine Runs.ops ?_
    refine RunAt.chunk 2 [⟨.d (.int .u32 n_), []⟩, ⟨.d (.bool (decide (n_ < 65536))), []⟩] (by kernel_rfl) ?_
    refine RunAt.done (by kernel_rfl) ?_
    refine kS_nrm ?_
    cases hb_2 : ((decide (n_ < 65536)) : Bool) with
    | true =>
      replace h := ite_t hb_2 h
      refine Runs.cond_t (by kernel_rfl) ?_
      refine Runs.seq ?_
      refine Runs.ops ?_
      refine RunAt.chunk 1 [⟨.d (.int .u64 (IntKind.wrap .u64 n_)), []⟩] (by kernel_rfl) ?_
      obtain ⟨r_2, hr_2, h⟩ := bind_s h
      have hc_2 := hansomref18_Bytes_L (IntKind.wrap .u64 n_) 2 r_2 hr_2
      refine RunAt.cut (some 13) (.callf 21) [] none [.d (.int .u64 (IntKind.wrap .u64 n_)), .d (.int .i64 2)] (.d (.str r_2)) [] (by kernel_rfl) (by kernel_rfl) (by kernel_rfl) (cut_call (call_of (ws := []) (us := []) (by kernel_rfl) (by kernel_rfl) hc_2 (by kernel_rfl) (by kernel_rfl))) ?_
      obtain ⟨z_1, hz_1, h⟩ := bind_s h
      refine RunAt.cut (some 14) (.bin .add) [] none [.d (.str ([129] : List UInt8)), .d (.str r_2)] (.d (.str z_1)) [] (by kernel_rfl) (by kernel_rfl) (by kernel_rfl) (cut_cat hz_1) ?_
      refine RunAt.chunk 1 [⟨.d (.str z_1), []⟩] (by kernel_rfl) ?_
      refine RunAt.done (by kernel_rfl) ?_
      refine kS_nrm ?_
      refine Runs.ret ?_
      refine kS_ret ?_
      obtain rfl := Option.some.inj h
      exact ⟨Out.ret_ne, (by kernel_rfl)⟩
    | false =>
      replace h := ite_f hb_2 h
      refine Runs.cond_f (by kernel_rfl) ?_
      refine Runs.skip ?_
      refine kS_nrm ?_
      refine Runs.seq ?_
      refine Runs.seq ?_
      refine Runs.ops ?_
      refine RunAt.chunk 2 [⟨.d (.int .u32 n_), []⟩, ⟨.d (.bool (decide (n_ < 16777216))), []⟩] (by kernel_rfl) ?_
      refine RunAt.done (by kernel_rfl) ?_
      refine kS_nrm ?_
      cases hb_3 : ((decide (n_ < 16777216)) : Bool) with
      | true =>
        replace h := ite_t hb_3 h
        refine Runs.cond_t (by kernel_rfl) ?_
        refine Runs.seq ?_
        refine Runs.ops ?_
        refine RunAt.chunk 1 [⟨.d (.int .u64 (IntKind.wrap .u64 n_)), []⟩] (by kernel_rfl) ?_
        obtain ⟨r_3, hr_3, h⟩ := bind_s h
        have hc_3 := hansomref18_Bytes_L (IntKind.wrap .u64 n_) 3 r_3 hr_3
        refine RunAt.cut (some 18) (.callf 21) [] none [.d (.int .u64 (IntKind.wrap .u64 n_)), .d (.int .i64 3)] (.d (.str r_3)) [] (by kernel_rfl) (by kernel_rfl) (by kernel_rfl) (cut_call (call_of (ws := []) (us := []) (by kernel_rfl) (by kernel_rfl) hc_3 (by kernel_rfl) (by kernel_rfl))) ?_
        obtain ⟨z_2, hz_2, h⟩ := bind_s h
        refine RunAt.cut (some 19) (.bin .add) [] none [.d (.str ([132] : List UInt8)), .d (.str r_3)] (.d (.str z_2)) [] (by kernel_rfl) (by kernel_rfl) (by kernel_rfl) (cut_cat hz_2) ?_
        refine RunAt.chunk 1 [⟨.d (.str z_2), []⟩] (by kernel_rfl) ?_
        refine RunAt.done (by kernel_rfl) ?_
        refine kS_nrm ?_
        refine Runs.ret ?_
        refine kS_ret ?_
        obtain rfl := Option.some.inj h
        exact ⟨Out.ret_ne, (by kernel_rfl)⟩
      | false =>
        replace h := ite_f hb_3 h
        refine Runs.cond_f (by kernel_rfl) ?_
        refine Runs.skip ?_
        refine kS_nrm ?_
        refine Runs.seq ?_
        refine Runs.ops ?_
        refine RunAt.chunk 1 [⟨.d (.int .u64 (IntKind.wrap .u64 n_)), []⟩] (by kernel_rfl) ?_
        obtain ⟨r_4, hr_4, h⟩ := bind_s h
        have hc_4 := hansomref18_Bytes_L (IntKind.wrap .u64 n_) 4 r_4 hr_4
        refine RunAt.cut (some 21) (.callf 21) [] none [.d (.int .u64 (IntKind.wrap .u64 n_)), .d (.int .i64 4)] (.d (.str r_4)) [] (by kernel_rfl) (by kernel_rfl) (by kernel_rfl) (cut_call (call_of (ws := []) (us := []) (by kernel_rfl) (by kernel_rfl) hc_4 (by kernel_rfl) (by kernel_rfl))) ?_
        obtain ⟨z_3, hz_3, h⟩ := bind_s h
        refine RunAt.cut (some 22) (.bin .add) [] none [.d (.str ([136] : List UInt8)), .d (.str r_4)] (.d (.str z_3)) [] (by kernel_rfl) (by kernel_rfl) (by kernel_rfl) (cut_cat hz_3) ?_
        refine RunAt.chunk 1 [⟨.d (.str z_3), []⟩] (by kernel_rfl) ?_
        refine RunAt.done (by kernel_rfl) ?_
        refine kS_nrm ?_
        refine Runs.ret ?_
        obtain rfl := Option.some.inj h
        exact ⟨Out.ret_ne, (by kernel_rfl)⟩
theorem hansomref18_Long_L (n_ : Int) (r : (List UInt8)) (h : hansomref18_Long n_ = some r) : L 24 [.d (.int .u32 n_)] = some (.d (.str r), [.d (.int .u32 n_)]) := by
  obtain ⟨p, ⟨hne, hf⟩, hr⟩ := hansomref18_Long_ok n_ r h
  obtain ⟨k, hk⟩ := run_of (F := F24) (args := [.d (.int .u32 n_)]) (ap := [.d (.int .u32 n_)]) (bx0 := updW (fun _ => none) []) rfl rfl (by kernel_rfl) ⟨p, ⟨hne, hf⟩, hr⟩
  exact lim_run (k := k) rfl hk
def hansomref18_Name_Q (s_ : (List UInt8)) (r : (List UInt8)) (p : Out × St) : Prop := (∀ i, p.1 ≠ .exit i) ∧ finF F19 [.d (.str s_)] p.2 = some (.d (.str r), [.d (.str s_)])
theorem hansomref18_Name_ok (s_ : (List UInt8)) (r : (List UInt8)) (h : hansomref18_Name s_ = some r) : Runs L F19.body ⟨tmOf [.d (.str s_)] 0, updW (fun _ => none) []⟩ (hansomref18_Name_Q s_ r) := by
  unfold hansomref18_Name at h
  refine Runs.seq ?_
  refine Runs.ops ?_
  refine RunAt.chunk 1 [⟨.d (.str ([] : List UInt8)), []⟩] (by kernel_rfl) ?_
  refine RunAt.done (by kernel_rfl) ?_
  refine kS_nrm ?_
  refine Runs.seq ?_
  refine Runs.seq ?_
  refine Runs.ops ?_
  refine RunAt.chunk 1 [⟨.d (.str s_), []⟩] (by kernel_rfl) ?_
  refine RunAt.cut (some 4) .lenS [] none [.d (.str s_)] (.d (.int .i64 (s_.length : Int))) [] (by kernel_rfl) (by kernel_rfl) (by kernel_rfl) (cut_lenS _) ?_
  refine RunAt.chunk 1 [⟨.d (.bool (decide ((s_.length : Int) > 255))), []⟩] (by kernel_rfl) ?_
  refine RunAt.done (by kernel_rfl) ?_
  refine kS_nrm ?_
  cases hb_1 : ((decide ((s_.length : Int) > 255)) : Bool) with
  | true =>
    replace h := ite_t hb_1 h
    refine Runs.cond_t (by kernel_rfl) ?_
    refine Runs.ops ?_
    refine RunAt.chunk 1 [⟨.d (.str s_), []⟩] (by kernel_rfl) ?_
    obtain ⟨z_1, hz_1, h⟩ := bind_s h
    refine RunAt.cut (some 7) (.substr false true) [] none [.d (.str s_), .d (.int .i64 255)] (.d (.str z_1)) [] (by kernel_rfl) (by kernel_rfl) (by kernel_rfl) (cut_strFT hz_1) ?_
    refine RunAt.chunk 1 [⟨.d (.str z_1), []⟩] (by kernel_rfl) ?_
    refine RunAt.done (by kernel_rfl) ?_
    refine kS_nrm ?_
    refine Runs.seq ?_
    refine Runs.ops ?_
    refine RunAt.chunk 1 [⟨.d (.str z_1), []⟩] (by kernel_rfl) ?_
    refine RunAt.cut (some 9) .lenS [] none [.d (.str z_1)] (.d (.int .i64 (z_1.length : Int))) [] (by kernel_rfl) (by kernel_rfl) (by kernel_rfl) (cut_lenS _) ?_
    refine RunAt.chunk 2 [⟨.d (.int .u8 (IntKind.wrap .u8 (z_1.length : Int))), []⟩, ⟨.ref [11] 0 0 (List.map (D.int .u8) ([(IntKind.wrap .u8 (z_1.length : Int))] : List Int)).length 1, [([11], some (.arr (List.map (D.int .u8) ([(IntKind.wrap .u8 (z_1.length : Int))] : List Int)) 0 false))]⟩] (by kernel_rfl) ?_
    refine RunAt.cut (some 12) .bytesStr [] none [.ref [11] 0 0 (List.map (D.int .u8) ([(IntKind.wrap .u8 (z_1.length : Int))] : List Int)).length 1] (.d (.str (b2s ([(IntKind.wrap .u8 (z_1.length : Int))] : List Int)))) [] (by kernel_rfl) (by kernel_rfl) (by kernel_rfl) (cut_bsR (l := ([(IntKind.wrap .u8 (z_1.length : Int))] : List Int)) (fz := false) (by kernel_rfl) (by kernel_rfl) rfl) ?_
    refine RunAt.chunk 1 [⟨.d (.str z_1), []⟩] (by kernel_rfl) ?_
    obtain ⟨z_2, hz_2, h⟩ := bind_s h
    refine RunAt.cut (some 14) (.bin .add) [] none [.d (.str (b2s ([(IntKind.wrap .u8 (z_1.length : Int))] : List Int))), .d (.str z_1)] (.d (.str z_2)) [] (by kernel_rfl) (by kernel_rfl) (by kernel_rfl) (cut_cat hz_2) ?_
    refine RunAt.chunk 1 [⟨.d (.str z_2), []⟩] (by kernel_rfl) ?_
    refine RunAt.done (by kernel_rfl) ?_
    refine kS_nrm ?_
    refine Runs.ret ?_
    obtain rfl := Option.some.inj h
    exact ⟨Out.ret_ne, (by kernel_rfl)⟩
  | false =>
    replace h := ite_f hb_1 h
    refine Runs.cond_f (by kernel_rfl) ?_
    refine Runs.skip ?_
    refine kS_nrm ?_
    refine Runs.seq ?_
    refine Runs.ops ?_
    refine RunAt.chunk 1 [⟨.d (.str s_), []⟩] (by kernel_rfl) ?_
    refine RunAt.cut (some 9) .lenS [] none [.d (.str s_)] (.d (.int .i64 (s_.length : Int))) [] (by kernel_rfl) (by kernel_rfl) (by kernel_rfl) (cut_lenS _) ?_
    refine RunAt.chunk 2 [⟨.d (.int .u8 (IntKind.wrap .u8 (s_.length : Int))), []⟩, ⟨.ref [11] 0 0 (List.map (D.int .u8) ([(IntKind.wrap .u8 (s_.length : Int))] : List Int)).length 1, [([11], some (.arr (List.map (D.int .u8) ([(IntKind.wrap .u8 (s_.length : Int))] : List Int)) 0 false))]⟩] (by kernel_rfl) ?_
    refine RunAt.cut (some 12) .bytesStr [] none [.ref [11] 0 0 (List.map (D.int .u8) ([(IntKind.wrap .u8 (s_.length : Int))] : List Int)).length 1] (.d (.str (b2s ([(IntKind.wrap .u8 (s_.length : Int))] : List Int)))) [] (by kernel_rfl) (by kernel_rfl) (by kernel_rfl) (cut_bsR (l := ([(IntKind.wrap .u8 (s_.length : Int))] : List Int)) (fz := false) (by kernel_rfl) (by kernel_rfl) rfl) ?_
    refine RunAt.chunk 1 [⟨.d (.str s_), []⟩] (by kernel_rfl) ?_
    obtain ⟨z_3, hz_3, h⟩ := bind_s h
    refine RunAt.cut (some 14) (.bin .add) [] none [.d (.str (b2s ([(IntKind.wrap .u8 (s_.length : Int))] : List Int))), .d (.str s_)] (.d (.str z_3)) [] (by kernel_rfl) (by kernel_rfl) (by kernel_rfl) (cut_cat hz_3) ?_
    refine RunAt.chunk 1 [⟨.d (.str z_3), []⟩] (by kernel_rfl) ?_
    refine RunAt.done (by kernel_rfl) ?_
    refine kS_nrm ?_
    refine Runs.ret ?_
    obtain rfl := Option.some.inj h
    exact ⟨Out.ret_ne, (by kernel_rfl)⟩
theorem hansomref18_Name_L (s_ : (List UInt8)) (r : (List UInt8)) (h : hansomref18_Name s_ = some r) : L 19 [.d (.str s_)] = some (.d (.str r), [.d (.str s_)]) := by
  obtain ⟨p, ⟨hne, hf⟩, hr⟩ := hansomref18_Name_ok s_ r h
  obtain ⟨k, hk⟩ := run_of (F := F19) (args := [.d (.str s_)]) (ap := [.d (.str s_)]) (bx0 := updW (fun _ => none) []) rfl rfl (by kernel_rfl) ⟨p, ⟨hne, hf⟩, hr⟩
  exact lim_run (k := k) rfl hk
def index_Source_Number_Q (s_ : Source) (r : (Int × Source)) (p : Out × St) : Prop := (∀ i, p.1 ≠ .exit i) ∧ finF F36 [.ptr [0] 0 0] p.2 = some (.d (.int .u32 r.1), [.ptr [.d (.sl (List.map (D.int .u8) r.2.b)), .d (.int .i64 r.2.e)]])
theorem index_Source_Number_ok (s_ : Source) (r : (Int × Source)) (h : index_Source_Number s_ = some r) : Runs L F36.body ⟨tmOf [.ptr [0] 0 0] 0, updW (fun _ => none) [([0], some (.cells [.d (.sl (List.map (D.int .u8) s_.b)), .d (.int .i64 s_.e)] 0))]⟩ (index_Source_Number_Q s_ r) := by
  unfold index_Source_Number at h
  refine Runs.seq ?_
  refine Runs.ops ?_
  refine RunAt.chunk 1 [⟨.d (.int .u32 0), []⟩] (by kernel_rfl) ?_
  refine RunAt.done (by kernel_rfl) ?_
  refine kS_nrm ?_
  refine Runs.seq ?_
  refine Runs.ops ?_
  refine RunAt.chunk 1 [⟨.ptr [0] 0 0, []⟩] (by kernel_rfl) ?_
  obtain ⟨r_1, hr_1, h⟩ := bind_s h
  have hc_1 := index_Source_Word_L s_ r_1 hr_1
  refine RunAt.cut (some 5) (.callf 30) [] none [.ptr [0] 0 0] (.d (.int .u16 r_1.1)) [([0], some (.cells [.d (.sl (List.map (D.int .u8) r_1.2.b)), .d (.int .i64 r_1.2.e)] 0))] (by kernel_rfl) (by kernel_rfl) (by kernel_rfl) (cut_call (call_of (ws := []) (us := [([0], some (.cells [.d (.sl (List.map (D.int .u8) r_1.2.b)), .d (.int .i64 r_1.2.e)] 0))]) (by kernel_rfl) (by kernel_rfl) hc_1 (by kernel_rfl) (by kernel_rfl))) ?_
  refine RunAt.chunk 1 [⟨.d (.int .u16 r_1.1), []⟩] (by kernel_rfl) ?_
  refine RunAt.done (by kernel_rfl) ?_
  refine kS_nrm ?_
  refine Runs.seq ?_
  refine Runs.ops ?_
  refine RunAt.chunk 3 [⟨.d (.int .u16 r_1.1), []⟩, ⟨.d (.int .u32 (IntKind.wrap .u32 r_1.1)), []⟩, ⟨.ptr [0] 0 0, []⟩] (by kernel_rfl) ?_
  obtain ⟨r_2, hr_2, h⟩ := bind_s h
  have hc_2 := index_Source_Word_L r_1.2 r_2 hr_2
  refine RunAt.cut (some 9) (.callf 30) [] none [.ptr [0] 0 0] (.d (.int .u16 r_2.1)) [([0], some (.cells [.d (.sl (List.map (D.int .u8) r_2.2.b)), .d (.int .i64 r_2.2.e)] 0))] (by kernel_rfl) (by kernel_rfl) (by kernel_rfl) (cut_call (call_of (ws := []) (us := [([0], some (.cells [.d (.sl (List.map (D.int .u8) r_2.2.b)), .d (.int .i64 r_2.2.e)] 0))]) (by kernel_rfl) (by kernel_rfl) hc_2 (by kernel_rfl) (by kernel_rfl))) ?_
  refine RunAt.chunk 4 [⟨.d (.int .u32 (IntKind.wrap .u32 r_2.1)), []⟩, ⟨.d (.int .u32 (shlI .u32 (IntKind.wrap .u32 r_2.1) 16)), []⟩, ⟨.d (.int .u32 (bitsOp .or .u32 (IntKind.wrap .u32 r_1.1) (shlI .u32 (IntKind.wrap .u32 r_2.1) 16))), []⟩, ⟨.d (.int .u32 (bitsOp .or .u32 (IntKind.wrap .u32 r_1.1) (shlI .u32 (IntKind.wrap .u32 r_2.1) 16))), []⟩] (by kernel_rfl) ?_
  refine RunAt.done (by kernel_rfl) ?_
  refine kS_nrm ?_
  refine Runs.ret ?_
  obtain rfl := Option.some.inj h
  exact ⟨Out.ret_ne, (by kernel_rfl)⟩
theorem index_Source_Number_L (s_ : Source) (r : (Int × Source)) (h : index_Source_Number s_ = some r) : L 36 [.ptr [.d (.sl (List.map (D.int .u8) s_.b)), .d (.int .i64 s_.e)]] = some (.d (.int .u32 r.1), [.ptr [.d (.sl (List.map (D.int .u8) r.2.b)), .d (.int .i64 r.2.e)]]) := by
  obtain ⟨p, ⟨hne, hf⟩, hr⟩ := index_Source_Number_ok s_ r h
  obtain ⟨k, hk⟩ := run_of (F := F36) (args := [.ptr [.d (.sl (List.map (D.int .u8) s_.b)), .d (.int .i64 s_.e)]]) (ap := [.ptr [0] 0 0]) (bx0 := updW (fun _ => none) [([0], some (.cells [.d (.sl (List.map (D.int .u8) s_.b)), .d (.int .i64 s_.e)] 0))]) rfl rfl (by kernel_rfl) ⟨p, ⟨hne, hf⟩, hr⟩
  exact lim_run (k := k) rfl hk
def hansomlaw19_IndexBack_h8 (l0 : (List Int)) (t5 : (List UInt8)) (b6 : (List UInt8)) (i7 : Int) : St := ⟨tab [(0, .d (.sl (List.map (D.int .u32) l0))), (5, .d (.str t5)), (6, .d (.str b6)), (7, .d (.int .i64 i7))], tabB []⟩
def hansomlaw19_IndexBack_h19 (l0 : (List Int)) (t5 : (List UInt8)) (b6 : (List UInt8)) : St := ⟨tab [(0, .d (.sl (List.map (D.int .u32) l0))), (5, .d (.str t5)), (6, .d (.str b6))], tabB []⟩
def hansomlaw19_IndexBack_h25 (b_55 : Source) (l0 : (List Int)) (t5 : (List UInt8)) (i9 : Int) : St := ⟨tab [(0, .d (.sl (List.map (D.int .u32) l0))), (5, .d (.str t5)), (8, .ptr [55] 0 0), (9, .d (.int .i64 i9))], tabB [([55], some (.cells [.d (.sl (List.map (D.int .u8) b_55.b)), .d (.int .i64 b_55.e)] 0))]⟩
def hansomlaw19_IndexBack_h44 (b_55 : Source) : St := ⟨tab [(8, .ptr [55] 0 0)], tabB [([55], some (.cells [.d (.sl (List.map (D.int .u8) b_55.b)), .d (.int .i64 b_55.e)] 0))]⟩
def hansomlaw19_IndexBack_Q (l_ : (List Int)) (s_ : (List UInt8)) (r : Bool) (p : Out × St) : Prop := (∀ i, p.1 ≠ .exit i) ∧ finF F5 [.d (.sl (List.map (D.int .u32) l_)), .d (.str s_)] p.2 = some (.d (.bool r), [.d (.sl (List.map (D.int .u32) l_)), .d (.str s_)])
def hansomlaw19_IndexBack_P8 (l_ : (List Int)) (s_ : (List UInt8)) (l0 : (List Int)) (t5 : (List UInt8)) (e : (List UInt8)) (p : Out × St) : Prop := p.1 = .exit 0 ∧ ∃ g : Unit, Canon [] [0, 5, 6] [] p.2 (hansomlaw19_IndexBack_h19 l0 t5 e)
def hansomlaw19_IndexBack_P25 (l_ : (List Int)) (s_ : (List UInt8)) (l0 : (List Int)) (t5 : (List UInt8)) (e : (Bool ⊕ Source)) (p : Out × St) : Prop := match e with
  | .inl x => p.1 = .ret ∧ finF F5 [.d (.sl (List.map (D.int .u32) l_)), .d (.str s_)] p.2 = some (.d (.bool x), [.d (.sl (List.map (D.int .u32) l_)), .d (.str s_)])
  | .inr x => p.1 = .exit 2 ∧ ∃ g : Unit, Canon [] [8] [[55]] p.2 (hansomlaw19_IndexBack_h44 x)
theorem hansomlaw19_IndexBack_l8_ok (l_ : (List Int)) (s_ : (List UInt8)) (l0 : (List Int)) (t5 : (List UInt8)) (b6 : (List UInt8)) (i7 : Int) (r : (Lp ((List UInt8) × Int) (List UInt8))) (h : hansomlaw19_IndexBack_l8 l0 t5 b6 i7 = some r) : Runs L F5l8 (hansomlaw19_IndexBack_h8 l0 t5 b6 i7) (LQ [] [0, 5, 6, 7] [] (fun (x : ((List UInt8) × Int)) (g : Unit) => hansomlaw19_IndexBack_h8 l0 t5 x.1 x.2) (hansomlaw19_IndexBack_P8 l_ s_ l0 t5) r) := by
  unfold hansomlaw19_IndexBack_l8 at h
  refine Runs.seq ?_
  refine Runs.seq ?_
  refine Runs.ops ?_
  refine RunAt.chunk 2 [⟨.d (.int .i64 i7), []⟩, ⟨.d (.sl (List.map (D.int .u32) l0)), []⟩] (by kernel_rfl) ?_
  refine RunAt.cut (some 20) .lenL [] none [.d (.sl (List.map (D.int .u32) l0))] (.d (.int .i64 (l0.length : Int))) [] (by kernel_rfl) (by kernel_rfl) (by kernel_rfl) (cut_len _) ?_
  refine RunAt.chunk 2 [⟨.d (.bool (decide (i7 < (l0.length : Int)))), []⟩, ⟨.d (.bool (decide (i7 < (l0.length : Int)))), []⟩] (by kernel_rfl) ?_
  cases hb_1 : ((decide (i7 < (l0.length : Int))) : Bool) with
  | true =>
    replace h := ite_t hb_1 h
    refine RunAt.chunk 3 [⟨.d (.int .i64 i7), []⟩, ⟨.d (.bool (decide (i7 < 12))), []⟩, ⟨.d (.bool (decide (i7 < 12))), []⟩] (by kernel_rfl) ?_
    refine RunAt.done (by kernel_rfl) ?_
    refine kS_nrm ?_
    cases hb_2 : ((decide (i7 < 12)) : Bool) with
    | true =>
      replace h := ite_t hb_2 h
      refine Runs.cond_t (by kernel_rfl) ?_
      refine Runs.skip ?_
      refine kS_nrm ?_
      refine Runs.seq ?_
      refine Runs.block ?_
      refine Runs.ops ?_
      refine RunAt.chunk 3 [⟨.d (.str b6), []⟩, ⟨.d (.sl (List.map (D.int .u32) l0)), []⟩, ⟨.d (.int .i64 i7), []⟩] (by kernel_rfl) ?_
      obtain ⟨z_2, hz_2, h⟩ := bind_s h
      refine RunAt.cut (some 31) (.iaddrS 1) [] none [.d (.sl (List.map (D.int .u32) l0)), .d (.int .i64 i7)] (.elt (.int .u32 z_2) 0) [] (by kernel_rfl) (by kernel_rfl) (by kernel_rfl) (cut_at hz_2 (fun _ => rfl)) ?_
      refine RunAt.chunk 3 [⟨.d (.int .u32 z_2), []⟩, ⟨.d (.int .u32 (bitsOp .and .u32 z_2 32767)), []⟩, ⟨.d (.int .i64 (IntKind.wrap .i64 (bitsOp .and .u32 z_2 32767))), []⟩] (by kernel_rfl) ?_
      obtain ⟨r_1, hr_1, h⟩ := bind_s h
      have hc_1 := hansomref18_Index_L (IntKind.wrap .i64 (bitsOp .and .u32 z_2 32767)) r_1 hr_1
      refine RunAt.cut (some 35) (.callf 17) [] (some []) [.d (.int .i64 (IntKind.wrap .i64 (bitsOp .and .u32 z_2 32767)))] (.d (.str r_1)) [] (by kernel_rfl) (by kernel_rfl) (by kernel_rfl) (cut_call (call_of (ws := []) (us := []) (by kernel_rfl) (by kernel_rfl) hc_1 (by kernel_rfl) (by kernel_rfl))) ?_
      refine RunAt.chunk 2 [⟨.d (.sl (List.map (D.int .u32) l0)), []⟩, ⟨.d (.int .i64 i7), []⟩] (by kernel_rfl) ?_
      obtain ⟨z_3, hz_3, h⟩ := bind_s h
      refine RunAt.cut (some 38) (.iaddrS 1) [] none [.d (.sl (List.map (D.int .u32) l0)), .d (.int .i64 i7)] (.elt (.int .u32 z_3) 0) [] (by kernel_rfl) (by kernel_rfl) (by kernel_rfl) (cut_at hz_3 (fun _ => rfl)) ?_
      refine RunAt.chunk 1 [⟨.d (.int .u32 z_3), []⟩] (by kernel_rfl) ?_
      obtain ⟨r_2, hr_2, h⟩ := bind_s h
      have hc_2 := hansomref18_Long_L z_3 r_2 hr_2
      refine RunAt.cut (some 40) (.callf 24) [] (some []) [.d (.int .u32 z_3)] (.d (.str r_2)) [] (by kernel_rfl) (by kernel_rfl) (by kernel_rfl) (cut_call (call_of (ws := []) (us := []) (by kernel_rfl) (by kernel_rfl) hc_2 (by kernel_rfl) (by kernel_rfl))) ?_
      obtain ⟨z_4, hz_4, h⟩ := bind_s h
      refine RunAt.cut (some 41) (.bin .add) [] none [.d (.str r_1), .d (.str r_2)] (.d (.str z_4)) [] (by kernel_rfl) (by kernel_rfl) (by kernel_rfl) (cut_cat hz_4) ?_
      refine RunAt.chunk 2 [⟨.d (.sl (List.map (D.int .u32) l0)), []⟩, ⟨.d (.int .i64 i7), []⟩] (by kernel_rfl) ?_
      obtain ⟨z_5, hz_5, h⟩ := bind_s h
      refine RunAt.cut (some 44) (.iaddrS 1) [] none [.d (.sl (List.map (D.int .u32) l0)), .d (.int .i64 i7)] (.elt (.int .u32 z_5) 0) [] (by kernel_rfl) (by kernel_rfl) (by kernel_rfl) (cut_at hz_5 (fun _ => rfl)) ?_
      refine RunAt.chunk 2 [⟨.d (.int .u32 z_5), []⟩, ⟨.d (.int .u64 (IntKind.wrap .u64 z_5)), []⟩] (by kernel_rfl) ?_
      obtain ⟨r_3, hr_3, h⟩ := bind_s h
      have hc_3 := hansomref18_Bytes_L (IntKind.wrap .u64 z_5) 4 r_3 hr_3
      refine RunAt.cut (some 47) (.callf 21) [] none [.d (.int .u64 (IntKind.wrap .u64 z_5)), .d (.int .i64 4)] (.d (.str r_3)) [] (by kernel_rfl) (by kernel_rfl) (by kernel_rfl) (cut_call (call_of (ws := []) (us := []) (by kernel_rfl) (by kernel_rfl) hc_3 (by kernel_rfl) (by kernel_rfl))) ?_
      obtain ⟨z_6, hz_6, h⟩ := bind_s h
      refine RunAt.cut (some 48) (.bin .add) [] none [.d (.str z_4), .d (.str r_3)] (.d (.str z_6)) [] (by kernel_rfl) (by kernel_rfl) (by kernel_rfl) (cut_cat hz_6) ?_
      refine RunAt.chunk 1 [⟨.d (.str t5), []⟩] (by kernel_rfl) ?_
      obtain ⟨r_4, hr_4, h⟩ := bind_s h
      have hc_4 := hansomref18_Name_L t5 r_4 hr_4
      refine RunAt.cut (some 50) (.callf 19) [] none [.d (.str t5)] (.d (.str r_4)) [] (by kernel_rfl) (by kernel_rfl) (by kernel_rfl) (cut_call (call_of (ws := []) (us := []) (by kernel_rfl) (by kernel_rfl) hc_4 (by kernel_rfl) (by kernel_rfl))) ?_
      obtain ⟨z_7, hz_7, h⟩ := bind_s h
      refine RunAt.cut (some 51) (.bin .add) [] none [.d (.str z_6), .d (.str r_4)] (.d (.str z_7)) [] (by kernel_rfl) (by kernel_rfl) (by kernel_rfl) (cut_cat hz_7) ?_
      obtain ⟨z_8, hz_8, h⟩ := bind_s h
      refine RunAt.cut (some 52) (.bin .add) [] none [.d (.str b6), .d (.str z_7)] (.d (.str z_8)) [] (by kernel_rfl) (by kernel_rfl) (by kernel_rfl) (cut_cat hz_8) ?_
      refine RunAt.chunk 1 [⟨.d (.str z_8), []⟩] (by kernel_rfl) ?_
      refine RunAt.done (by kernel_rfl) ?_
      refine kB_nrm ?_
      refine kS_nrm ?_
      refine Runs.ops ?_
      refine RunAt.chunk 3 [⟨.d (.int .i64 i7), []⟩, ⟨.d (.int .i64 (IntKind.wrap .i64 (i7 + 1))), []⟩, ⟨.d (.int .i64 (IntKind.wrap .i64 (i7 + 1))), []⟩] (by kernel_rfl) ?_
      refine RunAt.done (by kernel_rfl) ?_
      obtain rfl := Option.some.inj h
      exact ⟨rfl, (), (Canon.nil (by kernel_rfl))⟩
    | false =>
      replace h := ite_f hb_2 h
      refine Runs.cond_f (by kernel_rfl) ?_
      refine Runs.exit ?_
      refine kS_exit ?_
      obtain rfl := Option.some.inj h
      exact ⟨nofun, rfl, (), (Canon.nil (by kernel_rfl))⟩
  | false =>
    replace h := ite_f hb_1 h
    refine RunAt.chunk 3 [⟨.tup [], []⟩, ⟨.tup [], []⟩, ⟨.d (.bool false), []⟩] (by kernel_rfl) ?_
    refine RunAt.done (by kernel_rfl) ?_
    refine kS_nrm ?_
    refine Runs.cond_f (by kernel_rfl) ?_
    refine Runs.exit ?_
    refine kS_exit ?_
    obtain rfl := Option.some.inj h
    exact ⟨nofun, rfl, (), (Canon.nil (by kernel_rfl))⟩
theorem hansomlaw19_IndexBack_l25_ok (l_ : (List Int)) (s_ : (List UInt8)) (b_55 : Source) (l0 : (List Int)) (t5 : (List UInt8)) (i9 : Int) (r : (Lp (Source × Int) (Bool ⊕ Source))) (h : hansomlaw19_IndexBack_l25 b_55 l0 t5 i9 = some r) : Runs L F5l25 (hansomlaw19_IndexBack_h25 b_55 l0 t5 i9) (LQ [] [0, 5, 8, 9] [[55]] (fun (x : (Source × Int)) (g : Unit) => hansomlaw19_IndexBack_h25 x.1 l0 t5 x.2) (hansomlaw19_IndexBack_P25 l_ s_ l0 t5) r) := by
  unfold hansomlaw19_IndexBack_l25 at h
  refine Runs.seq ?_
  refine Runs.seq ?_
  refine Runs.ops ?_
  refine RunAt.chunk 2 [⟨.d (.int .i64 i9), []⟩, ⟨.d (.sl (List.map (D.int .u32) l0)), []⟩] (by kernel_rfl) ?_
  refine RunAt.cut (some 58) .lenL [] none [.d (.sl (List.map (D.int .u32) l0))] (.d (.int .i64 (l0.length : Int))) [] (by kernel_rfl) (by kernel_rfl) (by kernel_rfl) (cut_len _) ?_
  refine RunAt.chunk 2 [⟨.d (.bool (decide (i9 < (l0.length : Int)))), []⟩, ⟨.d (.bool (decide (i9 < (l0.length : Int)))), []⟩] (by kernel_rfl) ?_
  cases hb_1 : ((decide (i9 < (l0.length : Int))) : Bool) with
  | true =>
    replace h := ite_t hb_1 h
    refine RunAt.chunk 3 [⟨.d (.int .i64 i9), []⟩, ⟨.d (.bool (decide (i9 < 12))), []⟩, ⟨.d (.bool (decide (i9 < 12))), []⟩] (by kernel_rfl) ?_
    refine RunAt.done (by kernel_rfl) ?_
    refine kS_nrm ?_
    cases hb_2 : ((decide (i9 < 12)) : Bool) with
    | true =>
      replace h := ite_t hb_2 h
      refine Runs.cond_t (by kernel_rfl) ?_
      refine Runs.skip ?_
      refine kS_nrm ?_
      refine Runs.seq ?_
      refine Runs.block ?_
      refine Runs.seq ?_
      refine Runs.ops ?_
      refine RunAt.chunk 1 [⟨.ptr [55] 0 0, []⟩] (by kernel_rfl) ?_
      obtain ⟨r_2, hr_2, h⟩ := bind_s h
      have hc_2 := index_Source_Index_L b_55 r_2 hr_2
      refine RunAt.cut (some 67) (.callf 31) [] none [.ptr [55] 0 0] (.d (.int .i64 r_2.1)) [([55], some (.cells [.d (.sl (List.map (D.int .u8) r_2.2.b)), .d (.int .i64 r_2.2.e)] 0))] (by kernel_rfl) (by kernel_rfl) (by kernel_rfl) (cut_call (call_of (ws := []) (us := [([55], some (.cells [.d (.sl (List.map (D.int .u8) r_2.2.b)), .d (.int .i64 r_2.2.e)] 0))]) (by kernel_rfl) (by kernel_rfl) hc_2 (by kernel_rfl) (by kernel_rfl))) ?_
      refine RunAt.chunk 1 [⟨.ptr [55] 0 0, []⟩] (by kernel_rfl) ?_
      obtain ⟨r_3, hr_3, h⟩ := bind_s h
      have hc_3 := index_Source_Long_L r_2.2 r_3 hr_3
      refine RunAt.cut (some 69) (.callf 33) [] none [.ptr [55] 0 0] (.d (.int .u32 r_3.1)) [([55], some (.cells [.d (.sl (List.map (D.int .u8) r_3.2.b)), .d (.int .i64 r_3.2.e)] 0))] (by kernel_rfl) (by kernel_rfl) (by kernel_rfl) (cut_call (call_of (ws := []) (us := [([55], some (.cells [.d (.sl (List.map (D.int .u8) r_3.2.b)), .d (.int .i64 r_3.2.e)] 0))]) (by kernel_rfl) (by kernel_rfl) hc_3 (by kernel_rfl) (by kernel_rfl))) ?_
      refine RunAt.chunk 1 [⟨.ptr [55] 0 0, []⟩] (by kernel_rfl) ?_
      obtain ⟨r_4, hr_4, h⟩ := bind_s h
      have hc_4 := index_Source_Number_L r_3.2 r_4 hr_4
      refine RunAt.cut (some 71) (.callf 36) [] none [.ptr [55] 0 0] (.d (.int .u32 r_4.1)) [([55], some (.cells [.d (.sl (List.map (D.int .u8) r_4.2.b)), .d (.int .i64 r_4.2.e)] 0))] (by kernel_rfl) (by kernel_rfl) (by kernel_rfl) (cut_call (call_of (ws := []) (us := [([55], some (.cells [.d (.sl (List.map (D.int .u8) r_4.2.b)), .d (.int .i64 r_4.2.e)] 0))]) (by kernel_rfl) (by kernel_rfl) hc_4 (by kernel_rfl) (by kernel_rfl))) ?_
      refine RunAt.chunk 3 [⟨.d (.int .i64 r_2.1), []⟩, ⟨.d (.int .u32 r_3.1), []⟩, ⟨.d (.int .u32 r_4.1), []⟩] (by kernel_rfl) ?_
      refine RunAt.done (by kernel_rfl) ?_
      refine kS_nrm ?_
      refine Runs.seq ?_
      refine Runs.ops ?_
      refine RunAt.chunk 3 [⟨.d (.int .i64 r_2.1), []⟩, ⟨.d (.sl (List.map (D.int .u32) l0)), []⟩, ⟨.d (.int .i64 i9), []⟩] (by kernel_rfl) ?_
      obtain ⟨z_2, hz_2, h⟩ := bind_s h
      refine RunAt.cut (some 75) (.iaddrS 1) [] none [.d (.sl (List.map (D.int .u32) l0)), .d (.int .i64 i9)] (.elt (.int .u32 z_2) 0) [] (by kernel_rfl) (by kernel_rfl) (by kernel_rfl) (cut_at hz_2 (fun _ => rfl)) ?_
      refine RunAt.chunk 5 [⟨.d (.int .u32 z_2), []⟩, ⟨.d (.int .u32 (bitsOp .and .u32 z_2 32767)), []⟩, ⟨.d (.int .i64 (IntKind.wrap .i64 (bitsOp .and .u32 z_2 32767))), []⟩, ⟨.d (.bool (r_2.1 != (IntKind.wrap .i64 (bitsOp .and .u32 z_2 32767)))), []⟩, ⟨.d (.bool (r_2.1 != (IntKind.wrap .i64 (bitsOp .and .u32 z_2 32767)))), []⟩] (by kernel_rfl) ?_
      cases hb_3 : ((r_2.1 != (IntKind.wrap .i64 (bitsOp .and .u32 z_2 32767))) : Bool) with
      | true =>
        replace h := ite_t hb_3 h
        refine RunAt.chunk 21 [⟨.tup [], []⟩, ⟨.tup [], []⟩, ⟨.tup [], []⟩, ⟨.tup [], []⟩, ⟨.tup [], []⟩, ⟨.tup [], []⟩, ⟨.d (.bool true), []⟩, ⟨.d (.bool true), []⟩, ⟨.tup [], []⟩, ⟨.tup [], []⟩, ⟨.tup [], []⟩, ⟨.tup [], []⟩, ⟨.tup [], []⟩, ⟨.tup [], []⟩, ⟨.d (.bool true), []⟩, ⟨.d (.bool true), []⟩, ⟨.tup [], []⟩, ⟨.tup [], []⟩, ⟨.tup [], []⟩, ⟨.tup [], []⟩, ⟨.d (.bool true), []⟩] (by kernel_rfl) ?_
        refine RunAt.done (by kernel_rfl) ?_
        refine kS_nrm ?_
        refine Runs.cond_t (by kernel_rfl) ?_
        refine Runs.seq ?_
        refine Runs.ops ?_
        refine RunAt.chunk 1 [⟨.d (.bool false), []⟩] (by kernel_rfl) ?_
        refine RunAt.done (by kernel_rfl) ?_
        refine kS_nrm ?_
        refine Runs.ret ?_
        refine kB_ret ?_
        refine kS_ret ?_
        obtain rfl := Option.some.inj h
        exact ⟨nofun, rfl, (by kernel_rfl)⟩
      | false =>
        replace h := ite_f hb_3 h
        refine RunAt.chunk 3 [⟨.d (.int .u32 r_3.1), []⟩, ⟨.d (.sl (List.map (D.int .u32) l0)), []⟩, ⟨.d (.int .i64 i9), []⟩] (by kernel_rfl) ?_
        obtain ⟨z_3, hz_3, h⟩ := bind_s h
        refine RunAt.cut (some 84) (.iaddrS 1) [] none [.d (.sl (List.map (D.int .u32) l0)), .d (.int .i64 i9)] (.elt (.int .u32 z_3) 0) [] (by kernel_rfl) (by kernel_rfl) (by kernel_rfl) (cut_at hz_3 (fun _ => rfl)) ?_
        refine RunAt.chunk 4 [⟨.d (.int .u32 z_3), []⟩, ⟨.d (.bool (r_3.1 != z_3)), []⟩, ⟨.d (.bool (r_3.1 != z_3)), []⟩, ⟨.d (.bool (r_3.1 != z_3)), []⟩] (by kernel_rfl) ?_
        cases hb_4 : ((r_3.1 != z_3) : Bool) with
        | true =>
          replace h := ite_t hb_4 h
          refine RunAt.chunk 13 [⟨.tup [], []⟩, ⟨.tup [], []⟩, ⟨.tup [], []⟩, ⟨.tup [], []⟩, ⟨.tup [], []⟩, ⟨.tup [], []⟩, ⟨.d (.bool true), []⟩, ⟨.d (.bool true), []⟩, ⟨.tup [], []⟩, ⟨.tup [], []⟩, ⟨.tup [], []⟩, ⟨.tup [], []⟩, ⟨.d (.bool true), []⟩] (by kernel_rfl) ?_
          refine RunAt.done (by kernel_rfl) ?_
          refine kS_nrm ?_
          refine Runs.cond_t (by kernel_rfl) ?_
          refine Runs.seq ?_
          refine Runs.ops ?_
          refine RunAt.chunk 1 [⟨.d (.bool false), []⟩] (by kernel_rfl) ?_
          refine RunAt.done (by kernel_rfl) ?_
          refine kS_nrm ?_
          refine Runs.ret ?_
          refine kB_ret ?_
          refine kS_ret ?_
          obtain rfl := Option.some.inj h
          exact ⟨nofun, rfl, (by kernel_rfl)⟩
        | false =>
          replace h := ite_f hb_4 h
          refine RunAt.chunk 3 [⟨.d (.int .u32 r_4.1), []⟩, ⟨.d (.sl (List.map (D.int .u32) l0)), []⟩, ⟨.d (.int .i64 i9), []⟩] (by kernel_rfl) ?_
          obtain ⟨z_4, hz_4, h⟩ := bind_s h
          refine RunAt.cut (some 92) (.iaddrS 1) [] none [.d (.sl (List.map (D.int .u32) l0)), .d (.int .i64 i9)] (.elt (.int .u32 z_4) 0) [] (by kernel_rfl) (by kernel_rfl) (by kernel_rfl) (cut_at hz_4 (fun _ => rfl)) ?_
          refine RunAt.chunk 4 [⟨.d (.int .u32 z_4), []⟩, ⟨.d (.bool (r_4.1 != z_4)), []⟩, ⟨.d (.bool (r_4.1 != z_4)), []⟩, ⟨.d (.bool (r_4.1 != z_4)), []⟩] (by kernel_rfl) ?_
          cases hb_5 : ((r_4.1 != z_4) : Bool) with
          | true =>
            replace h := ite_t hb_5 h
            refine RunAt.chunk 5 [⟨.tup [], []⟩, ⟨.tup [], []⟩, ⟨.tup [], []⟩, ⟨.tup [], []⟩, ⟨.d (.bool true), []⟩] (by kernel_rfl) ?_
            refine RunAt.done (by kernel_rfl) ?_
            refine kS_nrm ?_
            refine Runs.cond_t (by kernel_rfl) ?_
            refine Runs.seq ?_
            refine Runs.ops ?_
            refine RunAt.chunk 1 [⟨.d (.bool false), []⟩] (by kernel_rfl) ?_
            refine RunAt.done (by kernel_rfl) ?_
            refine kS_nrm ?_
            refine Runs.ret ?_
            refine kB_ret ?_
            refine kS_ret ?_
            obtain rfl := Option.some.inj h
            exact ⟨nofun, rfl, (by kernel_rfl)⟩
          | false =>
            replace h := ite_f hb_5 h
            refine RunAt.chunk 1 [⟨.ptr [55] 0 0, []⟩] (by kernel_rfl) ?_
            obtain ⟨r_5, hr_5, h⟩ := bind_s h
            have hc_5 := index_Source_Name_L r_4.2 r_5 hr_5
            refine RunAt.cut (some 98) (.callf 32) [] none [.ptr [55] 0 0] (.d (.str r_5.1)) [([55], some (.cells [.d (.sl (List.map (D.int .u8) r_5.2.b)), .d (.int .i64 r_5.2.e)] 0))] (by kernel_rfl) (by kernel_rfl) (by kernel_rfl) (cut_call (call_of (ws := []) (us := [([55], some (.cells [.d (.sl (List.map (D.int .u8) r_5.2.b)), .d (.int .i64 r_5.2.e)] 0))]) (by kernel_rfl) (by kernel_rfl) hc_5 (by kernel_rfl) (by kernel_rfl))) ?_
            refine RunAt.chunk 3 [⟨.d (.str t5), []⟩, ⟨.d (.bool (r_5.1 != t5)), []⟩, ⟨.d (.bool (r_5.1 != t5)), []⟩] (by kernel_rfl) ?_
            refine RunAt.done (by kernel_rfl) ?_
            refine kS_nrm ?_
            cases hb_6 : ((r_5.1 != t5) : Bool) with
            | true =>
              replace h := ite_t hb_6 h
              refine Runs.cond_t (by kernel_rfl) ?_
              refine Runs.seq ?_
              refine Runs.ops ?_
              refine RunAt.chunk 1 [⟨.d (.bool false), []⟩] (by kernel_rfl) ?_
              refine RunAt.done (by kernel_rfl) ?_
              refine kS_nrm ?_
              refine Runs.ret ?_
              refine kB_ret ?_
              refine kS_ret ?_
              obtain rfl := Option.some.inj h
              exact ⟨nofun, rfl, (by kernel_rfl)⟩
            | false =>
              replace h := ite_f hb_6 h
              refine Runs.cond_f (by kernel_rfl) ?_
              refine Runs.skip ?_
              refine kB_nrm ?_
              refine kS_nrm ?_
              refine Runs.ops ?_
              refine RunAt.chunk 3 [⟨.d (.int .i64 i9), []⟩, ⟨.d (.int .i64 (IntKind.wrap .i64 (i9 + 1))), []⟩, ⟨.d (.int .i64 (IntKind.wrap .i64 (i9 + 1))), []⟩] (by kernel_rfl) ?_
              refine RunAt.done (by kernel_rfl) ?_
              obtain rfl := Option.some.inj h
              exact ⟨rfl, (), (Canon.nil (by kernel_rfl))⟩
    | false =>
      replace h := ite_f hb_2 h
      refine Runs.cond_f (by kernel_rfl) ?_
      refine Runs.exit ?_
      refine kS_exit ?_
      obtain rfl := Option.some.inj h
      exact ⟨nofun, rfl, (), (Canon.nil (by kernel_rfl))⟩
  | false =>
    replace h := ite_f hb_1 h
    refine RunAt.chunk 3 [⟨.tup [], []⟩, ⟨.tup [], []⟩, ⟨.d (.bool false), []⟩] (by kernel_rfl) ?_
    refine RunAt.done (by kernel_rfl) ?_
    refine kS_nrm ?_
    refine Runs.cond_f (by kernel_rfl) ?_
    refine Runs.exit ?_
    refine kS_exit ?_
    obtain rfl := Option.some.inj h
    exact ⟨nofun, rfl, (), (Canon.nil (by kernel_rfl))⟩
theorem hansomlaw19_IndexBack_ok (l_ : (List Int)) (s_ : (List UInt8)) (r : Bool) (h : hansomlaw19_IndexBack l_ s_ = some r) : Runs L F5.body ⟨tmOf [.d (.sl (List.map (D.int .u32) l_)), .d (.str s_)] 0, updW (fun _ => none) []⟩ (hansomlaw19_IndexBack_Q l_ s_ r) := by
  unfold hansomlaw19_IndexBack at h
  refine Runs.seq ?_
  refine Runs.ops ?_
  refine RunAt.chunk 1 [⟨.d (.bool false), []⟩] (by kernel_rfl) ?_
  refine RunAt.done (by kernel_rfl) ?_
  refine kS_nrm ?_
  refine Runs.seq ?_
  refine Runs.ops ?_
  refine RunAt.chunk 2 [⟨.d (.str s_), []⟩, ⟨.d (.str s_), []⟩] (by kernel_rfl) ?_
  refine RunAt.cut (some 15) .lenS [] none [.d (.str s_)] (.d (.int .i64 (s_.length : Int))) [] (by kernel_rfl) (by kernel_rfl) (by kernel_rfl) (cut_lenS _) ?_
  refine RunAt.chunk 1 [⟨.d (.int .i64 (mnI (s_.length : Int) 255)), []⟩] (by kernel_rfl) ?_
  obtain ⟨z_1, hz_1, h⟩ := bind_s h
  refine RunAt.cut (some 17) (.substr false true) [] none [.d (.str s_), .d (.int .i64 (mnI (s_.length : Int) 255))] (.d (.str z_1)) [] (by kernel_rfl) (by kernel_rfl) (by kernel_rfl) (cut_strFT hz_1) ?_
  refine RunAt.chunk 2 [⟨.d (.str z_1), []⟩, ⟨.d (.str ([] : List UInt8)), []⟩] (by kernel_rfl) ?_
  refine RunAt.done (by kernel_rfl) ?_
  refine kS_nrm ?_
  refine Runs.seq ?_
  refine Runs.seq ?_
  refine Runs.ops ?_
  refine RunAt.chunk 1 [⟨.d (.int .i64 0), []⟩] (by kernel_rfl) ?_
  refine RunAt.done (by kernel_rfl) ?_
  refine kS_nrm ?_
  refine Runs.block ?_
  obtain ⟨e_1, he_1, h⟩ := bind_s h
  refine Runs.loop (fun x : ((List UInt8) × Int) => hansomlaw19_IndexBack_l8 l_ z_1 x.1 x.2) (fun (x : ((List UInt8) × Int)) (g : Unit) => hansomlaw19_IndexBack_h8 l_ z_1 x.1 x.2) (hansomlaw19_IndexBack_P8 l_ s_ l_ z_1) (fun x g r hr => hansomlaw19_IndexBack_l8_ok l_ s_ l_ z_1 x.1 x.2  r hr) () he_1 (Canon.nil (by kernel_rfl)) ?_
  rintro ⟨o, s⟩ hp
  obtain ⟨ho, g_1, hk_1⟩ := hp
  have ho' : o = .exit 0 := ho
  subst ho'
  refine kB_hit ?_
  refine kS_nrm ?_
  refine Runs.canon _ hk_1 ?_
  refine Runs.seq ?_
  refine Runs.ops ?_
  refine RunAt.chunk 1 [⟨.d (.str e_1), []⟩] (by kernel_rfl) ?_
  refine RunAt.cut (some 54) .strBytes [] none [.d (.str e_1)] (.ref [54] 0 0 (List.map (D.int .u8) (s2b e_1)).length 1) [([54], some (.arr (List.map (D.int .u8) (s2b e_1)) 0 false))] (by kernel_rfl) (by kernel_rfl) (by kernel_rfl) (cut_sb _ (by kernel_rfl)) ?_
  obtain ⟨r_1, hr_1, h⟩ := bind_s h
  have hc_1 := index_From_L (s2b e_1) r_1 hr_1
  refine RunAt.cut (some 55) (.callf 25) [] none [.ref [54] 0 0 (List.map (D.int .u8) (s2b e_1)).length 1] (.ptr [55] 0 0) [([54], some (.arr (List.map (D.int .u8) (s2b e_1)) 0 true)), ([55], some (.cells [.d (.sl (List.map (D.int .u8) r_1.b)), .d (.int .i64 r_1.e)] 0))] (by kernel_rfl) (by kernel_rfl) (by kernel_rfl) (cut_call (call_of (ws := [([54], some (.arr (List.map (D.int .u8) (s2b e_1)) 0 true))]) (us := [([54], some (.arr (List.map (D.int .u8) (s2b e_1)) 0 true))]) (by kernel_rfl) (gives_cons (ws := [([54], some (.arr (List.map (D.int .u8) (s2b e_1)) 0 true))]) (give_ref (e := (D.int .u8)) (l := (s2b e_1)) (fz := false) (by kernel_rfl) (by kernel_rfl) rfl) gives_nil) hc_1 (by kernel_rfl) (by kernel_rfl))) ?_
  refine RunAt.chunk 1 [⟨.ptr [55] 0 0, []⟩] (by kernel_rfl) ?_
  refine RunAt.done (by kernel_rfl) ?_
  refine kS_nrm ?_
  refine Runs.seq ?_
  refine Runs.seq ?_
  refine Runs.ops ?_
  refine RunAt.chunk 1 [⟨.d (.int .i64 0), []⟩] (by kernel_rfl) ?_
  refine RunAt.done (by kernel_rfl) ?_
  refine kS_nrm ?_
  refine Runs.block ?_
  obtain ⟨e_2, he_2, h⟩ := bind_s h
  refine Runs.loop (fun x : (Source × Int) => hansomlaw19_IndexBack_l25 x.1 l_ z_1 x.2) (fun (x : (Source × Int)) (g : Unit) => hansomlaw19_IndexBack_h25 x.1 l_ z_1 x.2) (hansomlaw19_IndexBack_P25 l_ s_ l_ z_1) (fun x g r hr => hansomlaw19_IndexBack_l25_ok l_ s_ x.1 l_ z_1 x.2  r hr) () he_2 (Canon.nil (by kernel_rfl)) ?_
  rintro ⟨o, s⟩ hp
  cases e_2 with
  | inl e_3 =>
    obtain ⟨ho, hf⟩ := hp
    have ho' : o = .ret := ho
    subst ho'
    refine kB_ret ?_
    refine kS_ret ?_
    obtain rfl := Option.some.inj h
    exact ⟨Out.ret_ne, hf⟩
  | inr e_4 =>
    obtain ⟨ho, g_2, hk_2⟩ := hp
    have ho' : o = .exit 2 := ho
    subst ho'
    refine kB_hit ?_
    refine kS_nrm ?_
    refine Runs.canon _ hk_2 ?_
    refine Runs.seq ?_
    refine Runs.ops ?_
    obtain ⟨r_2, hr_2, h⟩ := bind_s h
    have hc_2 := hansomlaw19_awake_L r_2 hr_2
    refine RunAt.cut (some 102) (.callf 15) [] none [] (.d (.bool r_2)) [] (by kernel_rfl) (by kernel_rfl) (by kernel_rfl) (cut_call (call_of (ws := []) (us := []) (by kernel_rfl) (by kernel_rfl) hc_2 (by kernel_rfl) (by kernel_rfl))) ?_
    refine RunAt.chunk 1 [⟨.d (.bool r_2), []⟩] (by kernel_rfl) ?_
    cases hb_1 : (r_2 : Bool) with
    | true =>
      replace h := ite_t hb_1 h
      refine RunAt.chunk 1 [⟨.ptr [55] 0 0, []⟩] (by kernel_rfl) ?_
      obtain ⟨r_3, hr_3, h⟩ := bind_s h
      have hc_3 := index_Source_Left_L e_4 r_3 hr_3
      refine RunAt.cut (some 105) (.callf 29) [] none [.ptr [55] 0 0] (.d (.int .i64 r_3)) [([55], some (.cells [.d (.sl (List.map (D.int .u8) e_4.b)), .d (.int .i64 e_4.e)] 0))] (by kernel_rfl) (by kernel_rfl) (by kernel_rfl) (cut_call (call_of (ws := []) (us := [([55], some (.cells [.d (.sl (List.map (D.int .u8) e_4.b)), .d (.int .i64 e_4.e)] 0))]) (by kernel_rfl) (by kernel_rfl) hc_3 (by kernel_rfl) (by kernel_rfl))) ?_
      refine RunAt.chunk 3 [⟨.d (.bool (r_3 == 0)), []⟩, ⟨.d (.bool (r_3 == 0)), []⟩, ⟨.d (.bool (r_3 == 0)), []⟩] (by kernel_rfl) ?_
      cases hb_2 : ((r_3 == 0) : Bool) with
      | true =>
        replace h := ite_t hb_2 h
        refine RunAt.chunk 1 [⟨.ptr [55] 0 0, []⟩] (by kernel_rfl) ?_
        obtain ⟨r_4, hr_4, h⟩ := bind_s h
        have hc_4 := index_Source_End_L e_4 r_4 hr_4
        refine RunAt.cut (some 110) (.callf 34) [] none [.ptr [55] 0 0] (.d (.int .i64 r_4.1)) [([55], some (.cells [.d (.sl (List.map (D.int .u8) r_4.2.b)), .d (.int .i64 r_4.2.e)] 0))] (by kernel_rfl) (by kernel_rfl) (by kernel_rfl) (cut_call (call_of (ws := []) (us := [([55], some (.cells [.d (.sl (List.map (D.int .u8) r_4.2.b)), .d (.int .i64 r_4.2.e)] 0))]) (by kernel_rfl) (by kernel_rfl) hc_4 (by kernel_rfl) (by kernel_rfl))) ?_
        refine RunAt.chunk 3 [⟨.d (.bool (r_4.1 == 0)), []⟩, ⟨.d (.bool (r_4.1 == 0)), []⟩, ⟨.d (.bool (r_4.1 == 0)), []⟩] (by kernel_rfl) ?_
        cases hb_3 : ((r_4.1 == 0) : Bool) with
        | true =>
          replace h := ite_t hb_3 h
          refine RunAt.chunk 1 [⟨.ptr [55] 0 0, []⟩] (by kernel_rfl) ?_
          obtain ⟨r_5, hr_5, h⟩ := bind_s h
          have hc_5 := index_Source_Byte_L r_4.2 r_5 hr_5
          refine RunAt.cut (some 115) (.callf 35) [] none [.ptr [55] 0 0] (.d (.int .u8 r_5.1)) [([55], some (.cells [.d (.sl (List.map (D.int .u8) r_5.2.b)), .d (.int .i64 r_5.2.e)] 0))] (by kernel_rfl) (by kernel_rfl) (by kernel_rfl) (cut_call (call_of (ws := []) (us := [([55], some (.cells [.d (.sl (List.map (D.int .u8) r_5.2.b)), .d (.int .i64 r_5.2.e)] 0))]) (by kernel_rfl) (by kernel_rfl) hc_5 (by kernel_rfl) (by kernel_rfl))) ?_
          refine RunAt.chunk 3 [⟨.d (.bool (r_5.1 == 0)), []⟩, ⟨.d (.bool (r_5.1 == 0)), []⟩, ⟨.d (.bool (r_5.1 == 0)), []⟩] (by kernel_rfl) ?_
          cases hb_4 : ((r_5.1 == 0) : Bool) with
          | true =>
            replace h := ite_t hb_4 h
            refine RunAt.chunk 1 [⟨.ptr [55] 0 0, []⟩] (by kernel_rfl) ?_
            obtain ⟨r_6, hr_6, h⟩ := bind_s h
            have hc_6 := index_Source_Err_L r_5.2 r_6 hr_6
            refine RunAt.cut (some 120) (.callf 28) [] none [.ptr [55] 0 0] (.d (.int .i64 r_6)) [([55], some (.cells [.d (.sl (List.map (D.int .u8) r_5.2.b)), .d (.int .i64 r_5.2.e)] 0))] (by kernel_rfl) (by kernel_rfl) (by kernel_rfl) (cut_call (call_of (ws := []) (us := [([55], some (.cells [.d (.sl (List.map (D.int .u8) r_5.2.b)), .d (.int .i64 r_5.2.e)] 0))]) (by kernel_rfl) (by kernel_rfl) hc_6 (by kernel_rfl) (by kernel_rfl))) ?_
            refine RunAt.chunk 3 [⟨.d (.bool (r_6 == 2)), []⟩, ⟨.d (.bool (r_6 == 2)), []⟩, ⟨.d (.bool (r_6 == 2)), []⟩] (by kernel_rfl) ?_
            refine RunAt.done (by kernel_rfl) ?_
            refine kS_nrm ?_
            refine Runs.ret ?_
            obtain rfl := Option.some.inj h
            exact ⟨Out.ret_ne, (by kernel_rfl)⟩
          | false =>
            replace h := ite_f hb_4 h
            refine RunAt.chunk 5 [⟨.tup [], []⟩, ⟨.tup [], []⟩, ⟨.tup [], []⟩, ⟨.d (.bool false), []⟩, ⟨.d (.bool false), []⟩] (by kernel_rfl) ?_
            refine RunAt.done (by kernel_rfl) ?_
            refine kS_nrm ?_
            refine Runs.ret ?_
            obtain rfl := Option.some.inj h
            exact ⟨Out.ret_ne, (by kernel_rfl)⟩
        | false =>
          replace h := ite_f hb_3 h
          refine RunAt.chunk 10 [⟨.tup [], []⟩, ⟨.tup [], []⟩, ⟨.tup [], []⟩, ⟨.d (.bool false), []⟩, ⟨.d (.bool false), []⟩, ⟨.tup [], []⟩, ⟨.tup [], []⟩, ⟨.tup [], []⟩, ⟨.d (.bool false), []⟩, ⟨.d (.bool false), []⟩] (by kernel_rfl) ?_
          refine RunAt.done (by kernel_rfl) ?_
          refine kS_nrm ?_
          refine Runs.ret ?_
          obtain rfl := Option.some.inj h
          exact ⟨Out.ret_ne, (by kernel_rfl)⟩
      | false =>
        replace h := ite_f hb_2 h
        refine RunAt.chunk 15 [⟨.tup [], []⟩, ⟨.tup [], []⟩, ⟨.tup [], []⟩, ⟨.d (.bool false), []⟩, ⟨.d (.bool false), []⟩, ⟨.tup [], []⟩, ⟨.tup [], []⟩, ⟨.tup [], []⟩, ⟨.d (.bool false), []⟩, ⟨.d (.bool false), []⟩, ⟨.tup [], []⟩, ⟨.tup [], []⟩, ⟨.tup [], []⟩, ⟨.d (.bool false), []⟩, ⟨.d (.bool false), []⟩] (by kernel_rfl) ?_
        refine RunAt.done (by kernel_rfl) ?_
        refine kS_nrm ?_
        refine Runs.ret ?_
        obtain rfl := Option.some.inj h
        exact ⟨Out.ret_ne, (by kernel_rfl)⟩
    | false =>
      replace h := ite_f hb_1 h
      refine RunAt.chunk 20 [⟨.tup [], []⟩, ⟨.tup [], []⟩, ⟨.tup [], []⟩, ⟨.d (.bool false), []⟩, ⟨.d (.bool false), []⟩, ⟨.tup [], []⟩, ⟨.tup [], []⟩, ⟨.tup [], []⟩, ⟨.d (.bool false), []⟩, ⟨.d (.bool false), []⟩, ⟨.tup [], []⟩, ⟨.tup [], []⟩, ⟨.tup [], []⟩, ⟨.d (.bool false), []⟩, ⟨.d (.bool false), []⟩, ⟨.tup [], []⟩, ⟨.tup [], []⟩, ⟨.tup [], []⟩, ⟨.d (.bool false), []⟩, ⟨.d (.bool false), []⟩] (by kernel_rfl) ?_
      refine RunAt.done (by kernel_rfl) ?_
      refine kS_nrm ?_
      refine Runs.ret ?_
      obtain rfl := Option.some.inj h
      exact ⟨Out.ret_ne, (by kernel_rfl)⟩
theorem hansomlaw19_IndexBack_L (l_ : (List Int)) (s_ : (List UInt8)) (r : Bool) (h : hansomlaw19_IndexBack l_ s_ = some r) : L 5 [.d (.sl (List.map (D.int .u32) l_)), .d (.str s_)] = some (.d (.bool r), [.d (.sl (List.map (D.int .u32) l_)), .d (.str s_)]) := by
  obtain ⟨p, ⟨hne, hf⟩, hr⟩ := hansomlaw19_IndexBack_ok l_ s_ r h
  obtain ⟨k, hk⟩ := run_of (F := F5) (args := [.d (.sl (List.map (D.int .u32) l_)), .d (.str s_)]) (ap := [.d (.sl (List.map (D.int .u32) l_)), .d (.str s_)]) (bx0 := updW (fun _ => none) []) rfl rfl (by kernel_rfl) ⟨p, ⟨hne, hf⟩, hr⟩
  exact lim_run (k := k) rfl hk
end Go.Es.Ixs
