/- The interpreter answers as plain Lean does: part 1. No condition. -/
import Derived.Test.YtedmdailpfbboaaIxpF
import Derived.Test.YtedmdailpfbboaaIxpP
import Derived.KernelRfl
set_option linter.unusedVariables false
set_option linter.unusedSimpArgs false
set_option maxRecDepth 100000
set_option maxHeartbeats 4000000
namespace Go.Es.Ixp
def index_From_Q (b_ : (List Int)) (r : Source) (p : Out × St) : Prop := (∀ i, p.1 ≠ .exit i) ∧ finF F25 [.d (.sl (List.map (D.int .u8) b_))] p.2 = some (.ptr [.d (.sl (List.map (D.int .u8) r.b)), .d (.int .i64 r.e)], [.d (.sl (List.map (D.int .u8) b_))])
theorem index_From_ok (b_ : (List Int)) (r : Source) (h : index_From b_ = some r) : Runs L F25.body ⟨tmOf [.d (.sl (List.map (D.int .u8) b_))] 0, updW (fun _ => none) []⟩ (index_From_Q b_ r) := by
  unfold index_From at h
  refine Runs.seq ?_
  refine Runs.ops ?_
  refine RunAt.chunk 1 [⟨.nilp, []⟩] (by kernel_rfl) ?_
  refine RunAt.done (by kernel_rfl) ?_
  refine kS_nrm ?_
  refine Runs.seq ?_
  refine Runs.ops ?_
  refine RunAt.chunk 1 [⟨.d (.sl (List.map (D.int .u8) b_)), []⟩] (by kernel_rfl) ?_
  obtain ⟨z_1, hz_1, h⟩ := bind_s h
  refine RunAt.cut (some 4) (.append 1 1 false) [] none [.nils, .d (.sl (List.map (D.int .u8) b_))] (.ref [4] 0 0 (List.map (D.int .u8) z_1).length 1) [([4], some (.arr (List.map (D.int .u8) z_1) 0 false))] (by kernel_rfl) (by kernel_rfl) (by kernel_rfl) (cut_appN (e := (D.int .u8)) (ws := []) (ap_data _) (fun _ => rfl) hz_1 (by kernel_rfl)) ?_
  refine RunAt.chunk 3 [⟨.mix [.ref [4] 0 0 (List.map (D.int .u8) z_1).length 1, .d (.int .i64 0)], []⟩, ⟨.ptr [6] 0 0, [([6], some (.cells [.ref [4] 0 0 (List.map (D.int .u8) z_1).length 1, .d (.int .i64 0)] 0))]⟩, ⟨.ptr [6] 0 0, []⟩] (by kernel_rfl) ?_
  refine RunAt.done (by kernel_rfl) ?_
  refine kS_nrm ?_
  refine Runs.seq ?_
  refine Runs.gcons (frzB_ref (e := (D.int .u8)) (l := z_1) (id := [6]) (id' := [4]) (v := 0) (n := 1) (fz := false) (ver := 0) (cs := [.ref [4] 0 0 (List.map (D.int .u8) z_1).length 1, .d (.int .i64 0)]) (cs' := [.d (.sl (List.map (D.int .u8) z_1)), .d (.int .i64 0)]) (by kernel_rfl) (by kernel_rfl) (by kernel_rfl) (by decide) (by kernel_rfl) rfl) ?_
  refine Runs.gnil ?_
  refine kS_nrm ?_
  refine Runs.ret ?_
  obtain rfl := Option.some.inj h
  exact ⟨Out.ret_ne, (by kernel_rfl)⟩
theorem index_From_L (b_ : (List Int)) (r : Source) (h : index_From b_ = some r) : L 25 [.d (.sl (List.map (D.int .u8) b_))] = some (.ptr [.d (.sl (List.map (D.int .u8) r.b)), .d (.int .i64 r.e)], [.d (.sl (List.map (D.int .u8) b_))]) := by
  obtain ⟨p, ⟨hne, hf⟩, hr⟩ := index_From_ok b_ r h
  obtain ⟨k, hk⟩ := run_of (F := F25) (args := [.d (.sl (List.map (D.int .u8) b_))]) (ap := [.d (.sl (List.map (D.int .u8) b_))]) (bx0 := updW (fun _ => none) []) rfl rfl (by kernel_rfl) ⟨p, ⟨hne, hf⟩, hr⟩
  exact lim_run (k := k) rfl hk
def index_Source_Wrong_Q (s_ : Source) (e_ : Int) (r : Source) (p : Out × St) : Prop := (∀ i, p.1 ≠ .exit i) ∧ finF F27 [.ptr [0] 0 0, .d (.int .i64 e_)] p.2 = some (.tup [], [.ptr [.d (.sl (List.map (D.int .u8) r.b)), .d (.int .i64 r.e)], .d (.int .i64 e_)])
theorem index_Source_Wrong_ok (s_ : Source) (e_ : Int) (r : Source) (h : index_Source_Wrong s_ e_ = some r) : Runs L F27.body ⟨tmOf [.ptr [0] 0 0, .d (.int .i64 e_)] 0, updW (fun _ => none) [([0], some (.cells [.d (.sl (List.map (D.int .u8) s_.b)), .d (.int .i64 s_.e)] 0))]⟩ (index_Source_Wrong_Q s_ e_ r) := by
  unfold index_Source_Wrong at h
  refine Runs.seq ?_
  refine Runs.seq ?_
  refine Runs.ops ?_
  refine RunAt.chunk 10 [⟨.ptr [0] 0 0, []⟩, ⟨.d (.bool true), []⟩, ⟨.d (.bool true), []⟩, ⟨.ptr [0] 0 0, []⟩, ⟨.ptr [0] 0 0, []⟩, ⟨.ptr [0] 0 1, []⟩, ⟨.d (.int .i64 s_.e), []⟩, ⟨.d (.bool (s_.e == 0)), []⟩, ⟨.d (.bool (s_.e == 0)), []⟩, ⟨.d (.bool (s_.e == 0)), []⟩] (by kernel_rfl) ?_
  cases hb_1 : ((s_.e == 0) : Bool) with
  | true =>
    replace h := ite_t hb_1 h
    refine RunAt.chunk 3 [⟨.d (.int .i64 e_), []⟩, ⟨.d (.bool (e_ != 0)), []⟩, ⟨.d (.bool (e_ != 0)), []⟩] (by kernel_rfl) ?_
    refine RunAt.done (by kernel_rfl) ?_
    refine kS_nrm ?_
    cases hb_2 : ((e_ != 0) : Bool) with
    | true =>
      replace h := ite_t hb_2 h
      refine Runs.cond_t (by kernel_rfl) ?_
      refine Runs.ops ?_
      refine RunAt.chunk 9 [⟨.ptr [0] 0 0, []⟩, ⟨.ptr [0] 0 0, []⟩, ⟨.d (.int .i64 e_), []⟩, ⟨.ptr [0] 0 0, []⟩, ⟨.ptr [0] 0 1, []⟩, ⟨.tup [], [([0], some (.cells [.d (.sl (List.map (D.int .u8) s_.b)), .d (.int .i64 e_)] 0))]⟩, ⟨.ptr [0] 0 0, []⟩, ⟨.ptr [0] 0 0, []⟩, ⟨.tup [], [([0], some (.cells [.nils, .d (.int .i64 e_)] 0))]⟩] (by kernel_rfl) ?_
      refine RunAt.done (by kernel_rfl) ?_
      refine kS_nrm ?_
      refine Runs.gcons (frzB_nil (ver := 0) (cs := [.nils, .d (.int .i64 e_)]) (cs' := [.d (.sl (List.map (D.int .u8) ([] : List Int))), .d (.int .i64 e_)]) (D.int .u8) (by kernel_rfl) (by kernel_rfl) (by kernel_rfl)) ?_
      refine Runs.gnil ?_
      obtain rfl := Option.some.inj h
      exact ⟨Out.nrm_ne, (by kernel_rfl)⟩
    | false =>
      replace h := ite_f hb_2 h
      refine Runs.cond_f (by kernel_rfl) ?_
      refine Runs.skip ?_
      refine kS_nrm ?_
      refine Runs.gsame (by kernel_rfl) ?_
      refine Runs.gnil ?_
      obtain rfl := Option.some.inj h
      exact ⟨Out.nrm_ne, (by kernel_rfl)⟩
  | false =>
    replace h := ite_f hb_1 h
    refine RunAt.chunk 3 [⟨.tup [], []⟩, ⟨.tup [], []⟩, ⟨.d (.bool false), []⟩] (by kernel_rfl) ?_
    refine RunAt.done (by kernel_rfl) ?_
    refine kS_nrm ?_
    refine Runs.cond_f (by kernel_rfl) ?_
    refine Runs.skip ?_
    refine kS_nrm ?_
    refine Runs.gsame (by kernel_rfl) ?_
    refine Runs.gnil ?_
    obtain rfl := Option.some.inj h
    exact ⟨Out.nrm_ne, (by kernel_rfl)⟩
theorem index_Source_Wrong_L (s_ : Source) (e_ : Int) (r : Source) (h : index_Source_Wrong s_ e_ = some r) : L 27 [.ptr [.d (.sl (List.map (D.int .u8) s_.b)), .d (.int .i64 s_.e)], .d (.int .i64 e_)] = some (.tup [], [.ptr [.d (.sl (List.map (D.int .u8) r.b)), .d (.int .i64 r.e)], .d (.int .i64 e_)]) := by
  obtain ⟨p, ⟨hne, hf⟩, hr⟩ := index_Source_Wrong_ok s_ e_ r h
  obtain ⟨k, hk⟩ := run_of (F := F27) (args := [.ptr [.d (.sl (List.map (D.int .u8) s_.b)), .d (.int .i64 s_.e)], .d (.int .i64 e_)]) (ap := [.ptr [0] 0 0, .d (.int .i64 e_)]) (bx0 := updW (fun _ => none) [([0], some (.cells [.d (.sl (List.map (D.int .u8) s_.b)), .d (.int .i64 s_.e)] 0))]) rfl rfl (by kernel_rfl) ⟨p, ⟨hne, hf⟩, hr⟩
  exact lim_run (k := k) rfl hk
def index_Source_Take_Q (s_ : Source) (n_ : Int) (r : ((List Int) × Source)) (p : Out × St) : Prop := (∀ i, p.1 ≠ .exit i) ∧ finF F26 [.ptr [0] 0 0, .d (.int .i64 n_)] p.2 = some (.d (.sl (List.map (D.int .u8) r.1)), [.ptr [.d (.sl (List.map (D.int .u8) r.2.b)), .d (.int .i64 r.2.e)], .d (.int .i64 n_)])
theorem index_Source_Take_ok (s_ : Source) (n_ : Int) (r : ((List Int) × Source)) (h : index_Source_Take s_ n_ = some r) : Runs L F26.body ⟨tmOf [.ptr [0] 0 0, .d (.int .i64 n_)] 0, updW (fun _ => none) [([0], some (.cells [.d (.sl (List.map (D.int .u8) s_.b)), .d (.int .i64 s_.e)] 0))]⟩ (index_Source_Take_Q s_ n_ r) := by
  unfold index_Source_Take at h
  refine Runs.seq ?_
  refine Runs.ops ?_
  refine RunAt.chunk 1 [⟨.nils, []⟩] (by kernel_rfl) ?_
  refine RunAt.done (by kernel_rfl) ?_
  refine kS_nrm ?_
  refine Runs.seq ?_
  refine Runs.seq ?_
  refine Runs.ops ?_
  refine RunAt.chunk 2 [⟨.ptr [0] 0 0, []⟩, ⟨.d (.bool false), []⟩] (by kernel_rfl) ?_
  refine RunAt.done (by kernel_rfl) ?_
  refine kS_nrm ?_
  refine Runs.cond_f (by kernel_rfl) ?_
  refine Runs.skip ?_
  refine kS_nrm ?_
  refine Runs.seq ?_
  refine Runs.seq ?_
  refine Runs.ops ?_
  refine RunAt.chunk 3 [⟨.d (.int .i64 n_), []⟩, ⟨.d (.bool (decide (n_ < 0))), []⟩, ⟨.d (.bool (decide (n_ < 0))), []⟩] (by kernel_rfl) ?_
  cases hb_1 : ((decide (n_ < 0)) : Bool) with
  | true =>
    replace h := ite_t hb_1 h
    refine RunAt.chunk 8 [⟨.tup [], []⟩, ⟨.tup [], []⟩, ⟨.tup [], []⟩, ⟨.tup [], []⟩, ⟨.tup [], []⟩, ⟨.tup [], []⟩, ⟨.tup [], []⟩, ⟨.d (.bool true), []⟩] (by kernel_rfl) ?_
    refine RunAt.done (by kernel_rfl) ?_
    refine kS_nrm ?_
    refine Runs.cond_t (by kernel_rfl) ?_
    refine Runs.seq ?_
    refine Runs.ops ?_
    refine RunAt.chunk 1 [⟨.ptr [0] 0 0, []⟩] (by kernel_rfl) ?_
    obtain ⟨r_1, hr_1, h⟩ := bind_s h
    have hc_1 := index_Source_Wrong_L s_ 2 r_1 hr_1
    refine RunAt.cut (some 20) (.callf 27) [] none [.ptr [0] 0 0, .d (.int .i64 2)] (.tup []) [([0], some (.cells [.d (.sl (List.map (D.int .u8) r_1.b)), .d (.int .i64 r_1.e)] 0))] (by kernel_rfl) (by kernel_rfl) (by kernel_rfl) (cut_call (call_of (ws := []) (us := [([0], some (.cells [.d (.sl (List.map (D.int .u8) r_1.b)), .d (.int .i64 r_1.e)] 0))]) (by kernel_rfl) (by kernel_rfl) hc_1 (by kernel_rfl) (by kernel_rfl))) ?_
    refine RunAt.done (by kernel_rfl) ?_
    refine kS_nrm ?_
    refine Runs.seq ?_
    refine Runs.ops ?_
    refine RunAt.chunk 1 [⟨.nils, []⟩] (by kernel_rfl) ?_
    refine RunAt.done (by kernel_rfl) ?_
    refine kS_nrm ?_
    refine Runs.seq ?_
    refine Runs.gcons (frz_nil (D.int .u8) (by kernel_rfl)) ?_
    refine Runs.gnil ?_
    refine kS_nrm ?_
    refine Runs.ret ?_
    refine kS_ret ?_
    obtain rfl := Option.some.inj h
    exact ⟨Out.ret_ne, (by kernel_rfl)⟩
  | false =>
    replace h := ite_f hb_1 h
    refine RunAt.chunk 5 [⟨.d (.int .i64 n_), []⟩, ⟨.ptr [0] 0 0, []⟩, ⟨.ptr [0] 0 0, []⟩, ⟨.ptr [0] 0 0, []⟩, ⟨.d (.sl (List.map (D.int .u8) s_.b)), []⟩] (by kernel_rfl) ?_
    refine RunAt.cut (some 16) .lenL [] none [.d (.sl (List.map (D.int .u8) s_.b))] (.d (.int .i64 (s_.b.length : Int))) [] (by kernel_rfl) (by kernel_rfl) (by kernel_rfl) (cut_len _) ?_
    refine RunAt.chunk 2 [⟨.d (.bool (decide (n_ > (s_.b.length : Int)))), []⟩, ⟨.d (.bool (decide (n_ > (s_.b.length : Int)))), []⟩] (by kernel_rfl) ?_
    refine RunAt.done (by kernel_rfl) ?_
    refine kS_nrm ?_
    cases hb_2 : ((decide (n_ > (s_.b.length : Int))) : Bool) with
    | true =>
      replace h := ite_t hb_2 h
      refine Runs.cond_t (by kernel_rfl) ?_
      refine Runs.seq ?_
      refine Runs.ops ?_
      refine RunAt.chunk 1 [⟨.ptr [0] 0 0, []⟩] (by kernel_rfl) ?_
      obtain ⟨r_2, hr_2, h⟩ := bind_s h
      have hc_2 := index_Source_Wrong_L s_ 2 r_2 hr_2
      refine RunAt.cut (some 20) (.callf 27) [] none [.ptr [0] 0 0, .d (.int .i64 2)] (.tup []) [([0], some (.cells [.d (.sl (List.map (D.int .u8) r_2.b)), .d (.int .i64 r_2.e)] 0))] (by kernel_rfl) (by kernel_rfl) (by kernel_rfl) (cut_call (call_of (ws := []) (us := [([0], some (.cells [.d (.sl (List.map (D.int .u8) r_2.b)), .d (.int .i64 r_2.e)] 0))]) (by kernel_rfl) (by kernel_rfl) hc_2 (by kernel_rfl) (by kernel_rfl))) ?_
      refine RunAt.done (by kernel_rfl) ?_
      refine kS_nrm ?_
      refine Runs.seq ?_
      refine Runs.ops ?_
      refine RunAt.chunk 1 [⟨.nils, []⟩] (by kernel_rfl) ?_
      refine RunAt.done (by kernel_rfl) ?_
      refine kS_nrm ?_
      refine Runs.seq ?_
      refine Runs.gcons (frz_nil (D.int .u8) (by kernel_rfl)) ?_
      refine Runs.gnil ?_
      refine kS_nrm ?_
      refine Runs.ret ?_
      refine kS_ret ?_
      obtain rfl := Option.some.inj h
      exact ⟨Out.ret_ne, (by kernel_rfl)⟩
    | false =>
      replace h := ite_f hb_2 h
      refine Runs.cond_f (by kernel_rfl) ?_
      refine Runs.skip ?_
      refine kS_nrm ?_
      refine Runs.seq ?_
      refine Runs.ops ?_
      refine RunAt.chunk 6 [⟨.ptr [0] 0 0, []⟩, ⟨.ptr [0] 0 0, []⟩, ⟨.ptr [0] 0 0, []⟩, ⟨.d (.sl (List.map (D.int .u8) s_.b)), []⟩, ⟨.d (.int .i64 n_), []⟩, ⟨.d (.int .i64 n_), []⟩] (by kernel_rfl) ?_
      obtain ⟨z_1, hz_1, h⟩ := bind_s h
      refine RunAt.cut (some 27) (.subsl 1 false true true) [] none [.d (.sl (List.map (D.int .u8) s_.b)), .d (.int .i64 n_), .d (.int .i64 n_)] (.d (.sl (List.map (D.int .u8) z_1))) [] (by kernel_rfl) (by kernel_rfl) (by kernel_rfl) (cut_slFTT hz_1 (fun _ => rfl)) ?_
      refine RunAt.chunk 1 [⟨.d (.sl (List.map (D.int .u8) z_1)), []⟩] (by kernel_rfl) ?_
      refine RunAt.done (by kernel_rfl) ?_
      refine kS_nrm ?_
      refine Runs.seq ?_
      refine Runs.ops ?_
      refine RunAt.chunk 6 [⟨.ptr [0] 0 0, []⟩, ⟨.ptr [0] 0 0, []⟩, ⟨.ptr [0] 0 0, []⟩, ⟨.ptr [0] 0 0, []⟩, ⟨.d (.sl (List.map (D.int .u8) s_.b)), []⟩, ⟨.d (.int .i64 n_), []⟩] (by kernel_rfl) ?_
      obtain ⟨z_2, hz_2, h⟩ := bind_s h
      refine RunAt.cut (some 34) (.subsl 1 true false false) [] none [.d (.sl (List.map (D.int .u8) s_.b)), .d (.int .i64 n_)] (.d (.sl (List.map (D.int .u8) z_2))) [] (by kernel_rfl) (by kernel_rfl) (by kernel_rfl) (cut_slTF hz_2 (fun _ => rfl)) ?_
      refine RunAt.chunk 3 [⟨.ptr [0] 0 0, []⟩, ⟨.ptr [0] 0 0, []⟩, ⟨.tup [], [([0], some (.cells [.d (.sl (List.map (D.int .u8) z_2)), .d (.int .i64 s_.e)] 0))]⟩] (by kernel_rfl) ?_
      refine RunAt.done (by kernel_rfl) ?_
      refine kS_nrm ?_
      refine Runs.seq ?_
      refine Runs.ops ?_
      refine RunAt.chunk 2 [⟨.d (.sl (List.map (D.int .u8) z_1)), []⟩, ⟨.d (.sl (List.map (D.int .u8) z_1)), []⟩] (by kernel_rfl) ?_
      refine RunAt.done (by kernel_rfl) ?_
      refine kS_nrm ?_
      refine Runs.ret ?_
      obtain rfl := Option.some.inj h
      exact ⟨Out.ret_ne, (by kernel_rfl)⟩
theorem index_Source_Take_L (s_ : Source) (n_ : Int) (r : ((List Int) × Source)) (h : index_Source_Take s_ n_ = some r) : L 26 [.ptr [.d (.sl (List.map (D.int .u8) s_.b)), .d (.int .i64 s_.e)], .d (.int .i64 n_)] = some (.d (.sl (List.map (D.int .u8) r.1)), [.ptr [.d (.sl (List.map (D.int .u8) r.2.b)), .d (.int .i64 r.2.e)], .d (.int .i64 n_)]) := by
  obtain ⟨p, ⟨hne, hf⟩, hr⟩ := index_Source_Take_ok s_ n_ r h
  obtain ⟨k, hk⟩ := run_of (F := F26) (args := [.ptr [.d (.sl (List.map (D.int .u8) s_.b)), .d (.int .i64 s_.e)], .d (.int .i64 n_)]) (ap := [.ptr [0] 0 0, .d (.int .i64 n_)]) (bx0 := updW (fun _ => none) [([0], some (.cells [.d (.sl (List.map (D.int .u8) s_.b)), .d (.int .i64 s_.e)] 0))]) rfl rfl (by kernel_rfl) ⟨p, ⟨hne, hf⟩, hr⟩
  exact lim_run (k := k) rfl hk
def index_Source_Byte_Q (s_ : Source) (r : (Int × Source)) (p : Out × St) : Prop := (∀ i, p.1 ≠ .exit i) ∧ finF F35 [.ptr [0] 0 0] p.2 = some (.d (.int .u8 r.1), [.ptr [.d (.sl (List.map (D.int .u8) r.2.b)), .d (.int .i64 r.2.e)]])
theorem index_Source_Byte_ok (s_ : Source) (r : (Int × Source)) (h : index_Source_Byte s_ = some r) : Runs L F35.body ⟨tmOf [.ptr [0] 0 0] 0, updW (fun _ => none) [([0], some (.cells [.d (.sl (List.map (D.int .u8) s_.b)), .d (.int .i64 s_.e)] 0))]⟩ (index_Source_Byte_Q s_ r) := by
  unfold index_Source_Byte at h
  refine Runs.seq ?_
  refine Runs.ops ?_
  refine RunAt.chunk 1 [⟨.d (.int .u8 0), []⟩] (by kernel_rfl) ?_
  refine RunAt.done (by kernel_rfl) ?_
  refine kS_nrm ?_
  refine Runs.seq ?_
  refine Runs.seq ?_
  refine Runs.ops ?_
  refine RunAt.chunk 1 [⟨.ptr [0] 0 0, []⟩] (by kernel_rfl) ?_
  obtain ⟨r_1, hr_1, h⟩ := bind_s h
  have hc_1 := index_Source_Take_L s_ 1 r_1 hr_1
  refine RunAt.cut (some 5) (.callf 26) [] none [.ptr [0] 0 0, .d (.int .i64 1)] (.d (.sl (List.map (D.int .u8) r_1.1))) [([0], some (.cells [.d (.sl (List.map (D.int .u8) r_1.2.b)), .d (.int .i64 r_1.2.e)] 0))] (by kernel_rfl) (by kernel_rfl) (by kernel_rfl) (cut_call (call_of (ws := []) (us := [([0], some (.cells [.d (.sl (List.map (D.int .u8) r_1.2.b)), .d (.int .i64 r_1.2.e)] 0))]) (by kernel_rfl) (by kernel_rfl) hc_1 (by kernel_rfl) (by kernel_rfl))) ?_
  refine RunAt.chunk 1 [⟨.d (.sl (List.map (D.int .u8) r_1.1)), []⟩] (by kernel_rfl) ?_
  refine RunAt.done (by kernel_rfl) ?_
  refine kS_nrm ?_
  refine Runs.seq ?_
  refine Runs.ops ?_
  refine RunAt.chunk 1 [⟨.d (.sl (List.map (D.int .u8) r_1.1)), []⟩] (by kernel_rfl) ?_
  refine RunAt.cut (some 7) .lenL [] none [.d (.sl (List.map (D.int .u8) r_1.1))] (.d (.int .i64 (r_1.1.length : Int))) [] (by kernel_rfl) (by kernel_rfl) (by kernel_rfl) (cut_len _) ?_
  refine RunAt.chunk 1 [⟨.d (.bool ((r_1.1.length : Int) == 1)), []⟩] (by kernel_rfl) ?_
  refine RunAt.done (by kernel_rfl) ?_
  refine kS_nrm ?_
  cases hb_1 : (((r_1.1.length : Int) == 1) : Bool) with
  | true =>
    replace h := ite_t hb_1 h
    refine Runs.cond_t (by kernel_rfl) ?_
    refine Runs.seq ?_
    refine Runs.ops ?_
    refine RunAt.chunk 1 [⟨.d (.sl (List.map (D.int .u8) r_1.1)), []⟩] (by kernel_rfl) ?_
    obtain ⟨z_1, hz_1, h⟩ := bind_s h
    refine RunAt.cut (some 10) (.iaddrS 1) [] none [.d (.sl (List.map (D.int .u8) r_1.1)), .d (.int .i64 0)] (.elt (.int .u8 z_1) 0) [] (by kernel_rfl) (by kernel_rfl) (by kernel_rfl) (cut_at hz_1 (fun _ => rfl)) ?_
    refine RunAt.chunk 2 [⟨.d (.int .u8 z_1), []⟩, ⟨.d (.int .u8 z_1), []⟩] (by kernel_rfl) ?_
    refine RunAt.done (by kernel_rfl) ?_
    refine kS_nrm ?_
    refine Runs.ret ?_
    refine kS_ret ?_
    obtain rfl := Option.some.inj h
    exact ⟨Out.ret_ne, (by kernel_rfl)⟩
  | false =>
    replace h := ite_f hb_1 h
    refine Runs.cond_f (by kernel_rfl) ?_
    refine Runs.skip ?_
    refine kS_nrm ?_
    refine Runs.seq ?_
    refine Runs.ops ?_
    refine RunAt.chunk 1 [⟨.d (.int .u8 0), []⟩] (by kernel_rfl) ?_
    refine RunAt.done (by kernel_rfl) ?_
    refine kS_nrm ?_
    refine Runs.ret ?_
    obtain rfl := Option.some.inj h
    exact ⟨Out.ret_ne, (by kernel_rfl)⟩
theorem index_Source_Byte_L (s_ : Source) (r : (Int × Source)) (h : index_Source_Byte s_ = some r) : L 35 [.ptr [.d (.sl (List.map (D.int .u8) s_.b)), .d (.int .i64 s_.e)]] = some (.d (.int .u8 r.1), [.ptr [.d (.sl (List.map (D.int .u8) r.2.b)), .d (.int .i64 r.2.e)]]) := by
  obtain ⟨p, ⟨hne, hf⟩, hr⟩ := index_Source_Byte_ok s_ r h
  obtain ⟨k, hk⟩ := run_of (F := F35) (args := [.ptr [.d (.sl (List.map (D.int .u8) s_.b)), .d (.int .i64 s_.e)]]) (ap := [.ptr [0] 0 0]) (bx0 := updW (fun _ => none) [([0], some (.cells [.d (.sl (List.map (D.int .u8) s_.b)), .d (.int .i64 s_.e)] 0))]) rfl rfl (by kernel_rfl) ⟨p, ⟨hne, hf⟩, hr⟩
  exact lim_run (k := k) rfl hk
def index_Source_Err_Q (s_ : Source) (r : Int) (p : Out × St) : Prop := (∀ i, p.1 ≠ .exit i) ∧ finF F28 [.ptr [0] 0 0] p.2 = some (.d (.int .i64 r), [.ptr [.d (.sl (List.map (D.int .u8) s_.b)), .d (.int .i64 s_.e)]])
theorem index_Source_Err_ok (s_ : Source) (r : Int) (h : index_Source_Err s_ = some r) : Runs L F28.body ⟨tmOf [.ptr [0] 0 0] 0, updW (fun _ => none) [([0], some (.cells [.d (.sl (List.map (D.int .u8) s_.b)), .d (.int .i64 s_.e)] 0))]⟩ (index_Source_Err_Q s_ r) := by
  unfold index_Source_Err at h
  refine Runs.seq ?_
  refine Runs.ops ?_
  refine RunAt.chunk 1 [⟨.d (.int .i64 0), []⟩] (by kernel_rfl) ?_
  refine RunAt.done (by kernel_rfl) ?_
  refine kS_nrm ?_
  refine Runs.seq ?_
  refine Runs.seq ?_
  refine Runs.ops ?_
  refine RunAt.chunk 2 [⟨.ptr [0] 0 0, []⟩, ⟨.d (.bool false), []⟩] (by kernel_rfl) ?_
  refine RunAt.done (by kernel_rfl) ?_
  refine kS_nrm ?_
  refine Runs.cond_f (by kernel_rfl) ?_
  refine Runs.skip ?_
  refine kS_nrm ?_
  refine Runs.seq ?_
  refine Runs.ops ?_
  refine RunAt.chunk 5 [⟨.ptr [0] 0 0, []⟩, ⟨.ptr [0] 0 0, []⟩, ⟨.ptr [0] 0 1, []⟩, ⟨.d (.int .i64 s_.e), []⟩, ⟨.d (.int .i64 s_.e), []⟩] (by kernel_rfl) ?_
  refine RunAt.done (by kernel_rfl) ?_
  refine kS_nrm ?_
  refine Runs.ret ?_
  obtain rfl := Option.some.inj h
  exact ⟨Out.ret_ne, (by kernel_rfl)⟩
theorem index_Source_Err_L (s_ : Source) (r : Int) (h : index_Source_Err s_ = some r) : L 28 [.ptr [.d (.sl (List.map (D.int .u8) s_.b)), .d (.int .i64 s_.e)]] = some (.d (.int .i64 r), [.ptr [.d (.sl (List.map (D.int .u8) s_.b)), .d (.int .i64 s_.e)]]) := by
  obtain ⟨p, ⟨hne, hf⟩, hr⟩ := index_Source_Err_ok s_ r h
  obtain ⟨k, hk⟩ := run_of (F := F28) (args := [.ptr [.d (.sl (List.map (D.int .u8) s_.b)), .d (.int .i64 s_.e)]]) (ap := [.ptr [0] 0 0]) (bx0 := updW (fun _ => none) [([0], some (.cells [.d (.sl (List.map (D.int .u8) s_.b)), .d (.int .i64 s_.e)] 0))]) rfl rfl (by kernel_rfl) ⟨p, ⟨hne, hf⟩, hr⟩
  exact lim_run (k := k) rfl hk
def index_Source_Index_Q (s_ : Source) (r : (Int × Source)) (p : Out × St) : Prop := (∀ i, p.1 ≠ .exit i) ∧ finF F31 [.ptr [0] 0 0] p.2 = some (.d (.int .i64 r.1), [.ptr [.d (.sl (List.map (D.int .u8) r.2.b)), .d (.int .i64 r.2.e)]])
theorem index_Source_Index_ok (s_ : Source) (r : (Int × Source)) (h : index_Source_Index s_ = some r) : Runs L F31.body ⟨tmOf [.ptr [0] 0 0] 0, updW (fun _ => none) [([0], some (.cells [.d (.sl (List.map (D.int .u8) s_.b)), .d (.int .i64 s_.e)] 0))]⟩ (index_Source_Index_Q s_ r) := by
  unfold index_Source_Index at h
  refine Runs.seq ?_
  refine Runs.ops ?_
  refine RunAt.chunk 1 [⟨.d (.int .i64 0), []⟩] (by kernel_rfl) ?_
  refine RunAt.done (by kernel_rfl) ?_
  refine kS_nrm ?_
  refine Runs.seq ?_
  refine Runs.ops ?_
  refine RunAt.chunk 1 [⟨.ptr [0] 0 0, []⟩] (by kernel_rfl) ?_
  obtain ⟨r_1, hr_1, h⟩ := bind_s h
  have hc_1 := index_Source_Byte_L s_ r_1 hr_1
  refine RunAt.cut (some 6) (.callf 35) [] none [.ptr [0] 0 0] (.d (.int .u8 r_1.1)) [([0], some (.cells [.d (.sl (List.map (D.int .u8) r_1.2.b)), .d (.int .i64 r_1.2.e)] 0))] (by kernel_rfl) (by kernel_rfl) (by kernel_rfl) (cut_call (call_of (ws := []) (us := [([0], some (.cells [.d (.sl (List.map (D.int .u8) r_1.2.b)), .d (.int .i64 r_1.2.e)] 0))]) (by kernel_rfl) (by kernel_rfl) hc_1 (by kernel_rfl) (by kernel_rfl))) ?_
  refine RunAt.chunk 2 [⟨.d (.int .i64 (IntKind.wrap .i64 r_1.1)), []⟩, ⟨.d (.int .i64 (IntKind.wrap .i64 r_1.1)), []⟩] (by kernel_rfl) ?_
  refine RunAt.done (by kernel_rfl) ?_
  refine kS_nrm ?_
  refine Runs.seq ?_
  refine Runs.seq ?_
  refine Runs.ops ?_
  refine RunAt.chunk 2 [⟨.d (.int .i64 (IntKind.wrap .i64 r_1.1)), []⟩, ⟨.d (.bool (decide ((IntKind.wrap .i64 r_1.1) < 128))), []⟩] (by kernel_rfl) ?_
  refine RunAt.done (by kernel_rfl) ?_
  refine kS_nrm ?_
  cases hb_1 : ((decide ((IntKind.wrap .i64 r_1.1) < 128)) : Bool) with
  | true =>
    replace h := ite_t hb_1 h
    refine Runs.cond_t (by kernel_rfl) ?_
    refine Runs.seq ?_
    refine Runs.ops ?_
    refine RunAt.chunk 2 [⟨.d (.int .i64 (IntKind.wrap .i64 r_1.1)), []⟩, ⟨.d (.int .i64 (IntKind.wrap .i64 r_1.1)), []⟩] (by kernel_rfl) ?_
    refine RunAt.done (by kernel_rfl) ?_
    refine kS_nrm ?_
    refine Runs.ret ?_
    refine kS_ret ?_
    obtain rfl := Option.some.inj h
    exact ⟨Out.ret_ne, (by kernel_rfl)⟩
  | false =>
    replace h := ite_f hb_1 h
    refine Runs.cond_f (by kernel_rfl) ?_
    refine Runs.skip ?_
    refine kS_nrm ?_
    refine Runs.seq ?_
    refine Runs.ops ?_
    refine RunAt.chunk 4 [⟨.d (.int .i64 (IntKind.wrap .i64 r_1.1)), []⟩, ⟨.d (.int .i64 (bitsOp .and .i64 (IntKind.wrap .i64 r_1.1) 127)), []⟩, ⟨.d (.int .i64 (shlI .i64 (bitsOp .and .i64 (IntKind.wrap .i64 r_1.1) 127) 8)), []⟩, ⟨.ptr [0] 0 0, []⟩] (by kernel_rfl) ?_
    obtain ⟨r_2, hr_2, h⟩ := bind_s h
    have hc_2 := index_Source_Byte_L r_1.2 r_2 hr_2
    refine RunAt.cut (some 15) (.callf 35) [] none [.ptr [0] 0 0] (.d (.int .u8 r_2.1)) [([0], some (.cells [.d (.sl (List.map (D.int .u8) r_2.2.b)), .d (.int .i64 r_2.2.e)] 0))] (by kernel_rfl) (by kernel_rfl) (by kernel_rfl) (cut_call (call_of (ws := []) (us := [([0], some (.cells [.d (.sl (List.map (D.int .u8) r_2.2.b)), .d (.int .i64 r_2.2.e)] 0))]) (by kernel_rfl) (by kernel_rfl) hc_2 (by kernel_rfl) (by kernel_rfl))) ?_
    refine RunAt.chunk 3 [⟨.d (.int .i64 (IntKind.wrap .i64 r_2.1)), []⟩, ⟨.d (.int .i64 (bitsOp .or .i64 (shlI .i64 (bitsOp .and .i64 (IntKind.wrap .i64 r_1.1) 127) 8) (IntKind.wrap .i64 r_2.1))), []⟩, ⟨.d (.int .i64 (bitsOp .or .i64 (shlI .i64 (bitsOp .and .i64 (IntKind.wrap .i64 r_1.1) 127) 8) (IntKind.wrap .i64 r_2.1))), []⟩] (by kernel_rfl) ?_
    refine RunAt.done (by kernel_rfl) ?_
    refine kS_nrm ?_
    refine Runs.seq ?_
    refine Runs.seq ?_
    refine Runs.ops ?_
    refine RunAt.chunk 1 [⟨.ptr [0] 0 0, []⟩] (by kernel_rfl) ?_
    obtain ⟨r_3, hr_3, h⟩ := bind_s h
    have hc_3 := index_Source_Err_L r_2.2 r_3 hr_3
    refine RunAt.cut (some 19) (.callf 28) [] none [.ptr [0] 0 0] (.d (.int .i64 r_3)) [([0], some (.cells [.d (.sl (List.map (D.int .u8) r_2.2.b)), .d (.int .i64 r_2.2.e)] 0))] (by kernel_rfl) (by kernel_rfl) (by kernel_rfl) (cut_call (call_of (ws := []) (us := [([0], some (.cells [.d (.sl (List.map (D.int .u8) r_2.2.b)), .d (.int .i64 r_2.2.e)] 0))]) (by kernel_rfl) (by kernel_rfl) hc_3 (by kernel_rfl) (by kernel_rfl))) ?_
    refine RunAt.chunk 1 [⟨.d (.bool (r_3 != 0)), []⟩] (by kernel_rfl) ?_
    refine RunAt.done (by kernel_rfl) ?_
    refine kS_nrm ?_
    cases hb_2 : ((r_3 != 0) : Bool) with
    | true =>
      replace h := ite_t hb_2 h
      refine Runs.cond_t (by kernel_rfl) ?_
      refine Runs.seq ?_
      refine Runs.ops ?_
      refine RunAt.chunk 1 [⟨.d (.int .i64 0), []⟩] (by kernel_rfl) ?_
      refine RunAt.done (by kernel_rfl) ?_
      refine kS_nrm ?_
      refine Runs.ret ?_
      refine kS_ret ?_
      obtain rfl := Option.some.inj h
      exact ⟨Out.ret_ne, (by kernel_rfl)⟩
    | false =>
      replace h := ite_f hb_2 h
      refine Runs.cond_f (by kernel_rfl) ?_
      refine Runs.skip ?_
      refine kS_nrm ?_
      refine Runs.seq ?_
      refine Runs.ops ?_
      refine RunAt.chunk 2 [⟨.d (.int .i64 (bitsOp .or .i64 (shlI .i64 (bitsOp .and .i64 (IntKind.wrap .i64 r_1.1) 127) 8) (IntKind.wrap .i64 r_2.1))), []⟩, ⟨.d (.int .i64 (bitsOp .or .i64 (shlI .i64 (bitsOp .and .i64 (IntKind.wrap .i64 r_1.1) 127) 8) (IntKind.wrap .i64 r_2.1))), []⟩] (by kernel_rfl) ?_
      refine RunAt.done (by kernel_rfl) ?_
      refine kS_nrm ?_
      refine Runs.ret ?_
      obtain rfl := Option.some.inj h
      exact ⟨Out.ret_ne, (by kernel_rfl)⟩
theorem index_Source_Index_L (s_ : Source) (r : (Int × Source)) (h : index_Source_Index s_ = some r) : L 31 [.ptr [.d (.sl (List.map (D.int .u8) s_.b)), .d (.int .i64 s_.e)]] = some (.d (.int .i64 r.1), [.ptr [.d (.sl (List.map (D.int .u8) r.2.b)), .d (.int .i64 r.2.e)]]) := by
  obtain ⟨p, ⟨hne, hf⟩, hr⟩ := index_Source_Index_ok s_ r h
  obtain ⟨k, hk⟩ := run_of (F := F31) (args := [.ptr [.d (.sl (List.map (D.int .u8) s_.b)), .d (.int .i64 s_.e)]]) (ap := [.ptr [0] 0 0]) (bx0 := updW (fun _ => none) [([0], some (.cells [.d (.sl (List.map (D.int .u8) s_.b)), .d (.int .i64 s_.e)] 0))]) rfl rfl (by kernel_rfl) ⟨p, ⟨hne, hf⟩, hr⟩
  exact lim_run (k := k) rfl hk
def index_Source_Name_Q (s_ : Source) (r : ((List UInt8) × Source)) (p : Out × St) : Prop := (∀ i, p.1 ≠ .exit i) ∧ finF F32 [.ptr [0] 0 0] p.2 = some (.d (.str r.1), [.ptr [.d (.sl (List.map (D.int .u8) r.2.b)), .d (.int .i64 r.2.e)]])
theorem index_Source_Name_ok (s_ : Source) (r : ((List UInt8) × Source)) (h : index_Source_Name s_ = some r) : Runs L F32.body ⟨tmOf [.ptr [0] 0 0] 0, updW (fun _ => none) [([0], some (.cells [.d (.sl (List.map (D.int .u8) s_.b)), .d (.int .i64 s_.e)] 0))]⟩ (index_Source_Name_Q s_ r) := by
  unfold index_Source_Name at h
  refine Runs.seq ?_
  refine Runs.ops ?_
  refine RunAt.chunk 1 [⟨.d (.str ([] : List UInt8)), []⟩] (by kernel_rfl) ?_
  refine RunAt.done (by kernel_rfl) ?_
  refine kS_nrm ?_
  refine Runs.seq ?_
  refine Runs.ops ?_
  refine RunAt.chunk 2 [⟨.ptr [0] 0 0, []⟩, ⟨.ptr [0] 0 0, []⟩] (by kernel_rfl) ?_
  obtain ⟨r_1, hr_1, h⟩ := bind_s h
  have hc_1 := index_Source_Byte_L s_ r_1 hr_1
  refine RunAt.cut (some 5) (.callf 35) [] none [.ptr [0] 0 0] (.d (.int .u8 r_1.1)) [([0], some (.cells [.d (.sl (List.map (D.int .u8) r_1.2.b)), .d (.int .i64 r_1.2.e)] 0))] (by kernel_rfl) (by kernel_rfl) (by kernel_rfl) (cut_call (call_of (ws := []) (us := [([0], some (.cells [.d (.sl (List.map (D.int .u8) r_1.2.b)), .d (.int .i64 r_1.2.e)] 0))]) (by kernel_rfl) (by kernel_rfl) hc_1 (by kernel_rfl) (by kernel_rfl))) ?_
  refine RunAt.chunk 1 [⟨.d (.int .i64 (IntKind.wrap .i64 r_1.1)), []⟩] (by kernel_rfl) ?_
  obtain ⟨r_2, hr_2, h⟩ := bind_s h
  have hc_2 := index_Source_Take_L r_1.2 (IntKind.wrap .i64 r_1.1) r_2 hr_2
  refine RunAt.cut (some 7) (.callf 26) [] none [.ptr [0] 0 0, .d (.int .i64 (IntKind.wrap .i64 r_1.1))] (.d (.sl (List.map (D.int .u8) r_2.1))) [([0], some (.cells [.d (.sl (List.map (D.int .u8) r_2.2.b)), .d (.int .i64 r_2.2.e)] 0))] (by kernel_rfl) (by kernel_rfl) (by kernel_rfl) (cut_call (call_of (ws := []) (us := [([0], some (.cells [.d (.sl (List.map (D.int .u8) r_2.2.b)), .d (.int .i64 r_2.2.e)] 0))]) (by kernel_rfl) (by kernel_rfl) hc_2 (by kernel_rfl) (by kernel_rfl))) ?_
  refine RunAt.cut (some 8) .bytesStr [] none [.d (.sl (List.map (D.int .u8) r_2.1))] (.d (.str (b2s r_2.1))) [] (by kernel_rfl) (by kernel_rfl) (by kernel_rfl) (cut_bs _) ?_
  refine RunAt.chunk 1 [⟨.d (.str (b2s r_2.1)), []⟩] (by kernel_rfl) ?_
  refine RunAt.done (by kernel_rfl) ?_
  refine kS_nrm ?_
  refine Runs.ret ?_
  obtain rfl := Option.some.inj h
  exact ⟨Out.ret_ne, (by kernel_rfl)⟩
theorem index_Source_Name_L (s_ : Source) (r : ((List UInt8) × Source)) (h : index_Source_Name s_ = some r) : L 32 [.ptr [.d (.sl (List.map (D.int .u8) s_.b)), .d (.int .i64 s_.e)]] = some (.d (.str r.1), [.ptr [.d (.sl (List.map (D.int .u8) r.2.b)), .d (.int .i64 r.2.e)]]) := by
  obtain ⟨p, ⟨hne, hf⟩, hr⟩ := index_Source_Name_ok s_ r h
  obtain ⟨k, hk⟩ := run_of (F := F32) (args := [.ptr [.d (.sl (List.map (D.int .u8) s_.b)), .d (.int .i64 s_.e)]]) (ap := [.ptr [0] 0 0]) (bx0 := updW (fun _ => none) [([0], some (.cells [.d (.sl (List.map (D.int .u8) s_.b)), .d (.int .i64 s_.e)] 0))]) rfl rfl (by kernel_rfl) ⟨p, ⟨hne, hf⟩, hr⟩
  exact lim_run (k := k) rfl hk
def index_Put_Q (n_ : Int) (r : (List Int)) (p : Out × St) : Prop := (∀ i, p.1 ≠ .exit i) ∧ finF F16 [.d (.int .i64 n_)] p.2 = some (.d (.sl (List.map (D.int .u8) r)), [.d (.int .i64 n_)])
theorem index_Put_ok (n_ : Int) (r : (List Int)) (h : index_Put n_ = some r) : Runs L F16.body ⟨tmOf [.d (.int .i64 n_)] 0, updW (fun _ => none) []⟩ (index_Put_Q n_ r) := by
  unfold index_Put at h
  refine Runs.seq ?_
  refine Runs.ops ?_
  refine RunAt.chunk 1 [⟨.nils, []⟩] (by kernel_rfl) ?_
  refine RunAt.done (by kernel_rfl) ?_
  refine kS_nrm ?_
  refine Runs.seq ?_
  refine Runs.block ?_
  refine Runs.seq ?_
  refine Runs.ops ?_
  refine RunAt.chunk 3 [⟨.d (.int .i64 n_), []⟩, ⟨.d (.bool (decide (n_ < 0))), []⟩, ⟨.d (.bool (decide (n_ < 0))), []⟩] (by kernel_rfl) ?_
  cases hb_1 : ((decide (n_ < 0)) : Bool) with
  | true =>
    replace h := ite_t hb_1 h
    refine RunAt.chunk 4 [⟨.tup [], []⟩, ⟨.tup [], []⟩, ⟨.d (.bool true), []⟩, ⟨.d (.bool true), []⟩] (by kernel_rfl) ?_
    refine RunAt.done (by kernel_rfl) ?_
    refine kS_nrm ?_
    refine Runs.cond_t (by kernel_rfl) ?_
    refine Runs.seq ?_
    refine Runs.ops ?_
    refine RunAt.chunk 2 [⟨.ref [10] 0 0 (List.map (D.int .u8) ([0] : List Int)).length 1, [([10], some (.arr (List.map (D.int .u8) ([0] : List Int)) 0 false))]⟩, ⟨.ref [10] 0 0 (List.map (D.int .u8) ([0] : List Int)).length 1, []⟩] (by kernel_rfl) ?_
    refine RunAt.done (by kernel_rfl) ?_
    refine kS_nrm ?_
    refine Runs.seq ?_
    refine Runs.gcons (frz_ref (e := (D.int .u8)) (l := ([0] : List Int)) (id := [10]) (v := 0) (n := 1) (fz := false) (by kernel_rfl) (by kernel_rfl) rfl) ?_
    refine Runs.gnil ?_
    refine kS_nrm ?_
    refine Runs.ret ?_
    refine kB_ret ?_
    refine kS_ret ?_
    obtain rfl := Option.some.inj h
    exact ⟨Out.ret_ne, (by kernel_rfl)⟩
  | false =>
    replace h := ite_f hb_1 h
    refine RunAt.chunk 4 [⟨.d (.int .i64 n_), []⟩, ⟨.d (.bool (decide (n_ > 32767))), []⟩, ⟨.d (.bool (decide (n_ > 32767))), []⟩, ⟨.d (.bool (decide (n_ > 32767))), []⟩] (by kernel_rfl) ?_
    refine RunAt.done (by kernel_rfl) ?_
    refine kS_nrm ?_
    cases hb_2 : ((decide (n_ > 32767)) : Bool) with
    | true =>
      replace h := ite_t hb_2 h
      refine Runs.cond_t (by kernel_rfl) ?_
      refine Runs.seq ?_
      refine Runs.ops ?_
      refine RunAt.chunk 2 [⟨.ref [10] 0 0 (List.map (D.int .u8) ([0] : List Int)).length 1, [([10], some (.arr (List.map (D.int .u8) ([0] : List Int)) 0 false))]⟩, ⟨.ref [10] 0 0 (List.map (D.int .u8) ([0] : List Int)).length 1, []⟩] (by kernel_rfl) ?_
      refine RunAt.done (by kernel_rfl) ?_
      refine kS_nrm ?_
      refine Runs.seq ?_
      refine Runs.gcons (frz_ref (e := (D.int .u8)) (l := ([0] : List Int)) (id := [10]) (v := 0) (n := 1) (fz := false) (by kernel_rfl) (by kernel_rfl) rfl) ?_
      refine Runs.gnil ?_
      refine kS_nrm ?_
      refine Runs.ret ?_
      refine kB_ret ?_
      refine kS_ret ?_
      obtain rfl := Option.some.inj h
      exact ⟨Out.ret_ne, (by kernel_rfl)⟩
    | false =>
      replace h := ite_f hb_2 h
      refine Runs.cond_f (by kernel_rfl) ?_
      refine Runs.seq ?_
      refine Runs.ops ?_
      refine RunAt.chunk 3 [⟨.d (.int .i64 n_), []⟩, ⟨.d (.bool (decide (n_ < 128))), []⟩, ⟨.d (.bool (decide (n_ < 128))), []⟩] (by kernel_rfl) ?_
      refine RunAt.done (by kernel_rfl) ?_
      refine kS_nrm ?_
      cases hb_3 : ((decide (n_ < 128)) : Bool) with
      | true =>
        replace h := ite_t hb_3 h
        refine Runs.cond_t (by kernel_rfl) ?_
        refine Runs.seq ?_
        refine Runs.ops ?_
        refine RunAt.chunk 4 [⟨.d (.int .i64 n_), []⟩, ⟨.d (.int .u8 (IntKind.wrap .u8 n_)), []⟩, ⟨.ref [16] 0 0 (List.map (D.int .u8) ([(IntKind.wrap .u8 n_)] : List Int)).length 1, [([16], some (.arr (List.map (D.int .u8) ([(IntKind.wrap .u8 n_)] : List Int)) 0 false))]⟩, ⟨.ref [16] 0 0 (List.map (D.int .u8) ([(IntKind.wrap .u8 n_)] : List Int)).length 1, []⟩] (by kernel_rfl) ?_
        refine RunAt.done (by kernel_rfl) ?_
        refine kS_nrm ?_
        refine Runs.seq ?_
        refine Runs.gcons (frz_ref (e := (D.int .u8)) (l := ([(IntKind.wrap .u8 n_)] : List Int)) (id := [16]) (v := 0) (n := 1) (fz := false) (by kernel_rfl) (by kernel_rfl) rfl) ?_
        refine Runs.gnil ?_
        refine kS_nrm ?_
        refine Runs.ret ?_
        refine kB_ret ?_
        refine kS_ret ?_
        obtain rfl := Option.some.inj h
        exact ⟨Out.ret_ne, (by kernel_rfl)⟩
      | false =>
        replace h := ite_f hb_3 h
        refine Runs.cond_f (by kernel_rfl) ?_
        refine Runs.skip ?_
        refine kB_nrm ?_
        refine kS_nrm ?_
        refine Runs.seq ?_
        refine Runs.ops ?_
        refine RunAt.chunk 8 [⟨.d (.int .i64 n_), []⟩, ⟨.d (.int .i64 (shrI .i64 n_ 8)), []⟩, ⟨.d (.int .u8 (IntKind.wrap .u8 (shrI .i64 n_ 8))), []⟩, ⟨.d (.int .u8 (bitsOp .or .u8 (IntKind.wrap .u8 (shrI .i64 n_ 8)) 128)), []⟩, ⟨.d (.int .i64 n_), []⟩, ⟨.d (.int .u8 (IntKind.wrap .u8 n_)), []⟩, ⟨.ref [23] 0 0 (List.map (D.int .u8) ([(bitsOp .or .u8 (IntKind.wrap .u8 (shrI .i64 n_ 8)) 128), (IntKind.wrap .u8 n_)] : List Int)).length 1, [([23], some (.arr (List.map (D.int .u8) ([(bitsOp .or .u8 (IntKind.wrap .u8 (shrI .i64 n_ 8)) 128), (IntKind.wrap .u8 n_)] : List Int)) 0 false))]⟩, ⟨.ref [23] 0 0 (List.map (D.int .u8) ([(bitsOp .or .u8 (IntKind.wrap .u8 (shrI .i64 n_ 8)) 128), (IntKind.wrap .u8 n_)] : List Int)).length 1, []⟩] (by kernel_rfl) ?_
        refine RunAt.done (by kernel_rfl) ?_
        refine kS_nrm ?_
        refine Runs.seq ?_
        refine Runs.gcons (frz_ref (e := (D.int .u8)) (l := ([(bitsOp .or .u8 (IntKind.wrap .u8 (shrI .i64 n_ 8)) 128), (IntKind.wrap .u8 n_)] : List Int)) (id := [23]) (v := 0) (n := 1) (fz := false) (by kernel_rfl) (by kernel_rfl) rfl) ?_
        refine Runs.gnil ?_
        refine kS_nrm ?_
        refine Runs.ret ?_
        obtain rfl := Option.some.inj h
        exact ⟨Out.ret_ne, (by kernel_rfl)⟩
theorem index_Put_L (n_ : Int) (r : (List Int)) (h : index_Put n_ = some r) : L 16 [.d (.int .i64 n_)] = some (.d (.sl (List.map (D.int .u8) r)), [.d (.int .i64 n_)]) := by
  obtain ⟨p, ⟨hne, hf⟩, hr⟩ := index_Put_ok n_ r h
  obtain ⟨k, hk⟩ := run_of (F := F16) (args := [.d (.int .i64 n_)]) (ap := [.d (.int .i64 n_)]) (bx0 := updW (fun _ => none) []) rfl rfl (by kernel_rfl) ⟨p, ⟨hne, hf⟩, hr⟩
  exact lim_run (k := k) rfl hk
def index_Source_Left_Q (s_ : Source) (r : Int) (p : Out × St) : Prop := (∀ i, p.1 ≠ .exit i) ∧ finF F29 [.ptr [0] 0 0] p.2 = some (.d (.int .i64 r), [.ptr [.d (.sl (List.map (D.int .u8) s_.b)), .d (.int .i64 s_.e)]])
theorem index_Source_Left_ok (s_ : Source) (r : Int) (h : index_Source_Left s_ = some r) : Runs L F29.body ⟨tmOf [.ptr [0] 0 0] 0, updW (fun _ => none) [([0], some (.cells [.d (.sl (List.map (D.int .u8) s_.b)), .d (.int .i64 s_.e)] 0))]⟩ (index_Source_Left_Q s_ r) := by
  unfold index_Source_Left at h
  refine Runs.seq ?_
  refine Runs.ops ?_
  refine RunAt.chunk 1 [⟨.d (.int .i64 0), []⟩] (by kernel_rfl) ?_
  refine RunAt.done (by kernel_rfl) ?_
  refine kS_nrm ?_
  refine Runs.seq ?_
  refine Runs.seq ?_
  refine Runs.ops ?_
  refine RunAt.chunk 2 [⟨.ptr [0] 0 0, []⟩, ⟨.d (.bool false), []⟩] (by kernel_rfl) ?_
  refine RunAt.done (by kernel_rfl) ?_
  refine kS_nrm ?_
  refine Runs.cond_f (by kernel_rfl) ?_
  refine Runs.skip ?_
  refine kS_nrm ?_
  refine Runs.seq ?_
  refine Runs.ops ?_
  refine RunAt.chunk 4 [⟨.ptr [0] 0 0, []⟩, ⟨.ptr [0] 0 0, []⟩, ⟨.ptr [0] 0 0, []⟩, ⟨.d (.sl (List.map (D.int .u8) s_.b)), []⟩] (by kernel_rfl) ?_
  refine RunAt.cut (some 9) .lenL [] none [.d (.sl (List.map (D.int .u8) s_.b))] (.d (.int .i64 (s_.b.length : Int))) [] (by kernel_rfl) (by kernel_rfl) (by kernel_rfl) (cut_len _) ?_
  refine RunAt.chunk 1 [⟨.d (.int .i64 (s_.b.length : Int)), []⟩] (by kernel_rfl) ?_
  refine RunAt.done (by kernel_rfl) ?_
  refine kS_nrm ?_
  refine Runs.ret ?_
  obtain rfl := Option.some.inj h
  exact ⟨Out.ret_ne, (by kernel_rfl)⟩
theorem index_Source_Left_L (s_ : Source) (r : Int) (h : index_Source_Left s_ = some r) : L 29 [.ptr [.d (.sl (List.map (D.int .u8) s_.b)), .d (.int .i64 s_.e)]] = some (.d (.int .i64 r), [.ptr [.d (.sl (List.map (D.int .u8) s_.b)), .d (.int .i64 s_.e)]]) := by
  obtain ⟨p, ⟨hne, hf⟩, hr⟩ := index_Source_Left_ok s_ r h
  obtain ⟨k, hk⟩ := run_of (F := F29) (args := [.ptr [.d (.sl (List.map (D.int .u8) s_.b)), .d (.int .i64 s_.e)]]) (ap := [.ptr [0] 0 0]) (bx0 := updW (fun _ => none) [([0], some (.cells [.d (.sl (List.map (D.int .u8) s_.b)), .d (.int .i64 s_.e)] 0))]) rfl rfl (by kernel_rfl) ⟨p, ⟨hne, hf⟩, hr⟩
  exact lim_run (k := k) rfl hk
def index_Source_End_Q (s_ : Source) (r : (Int × Source)) (p : Out × St) : Prop := (∀ i, p.1 ≠ .exit i) ∧ finF F34 [.ptr [0] 0 0] p.2 = some (.d (.int .i64 r.1), [.ptr [.d (.sl (List.map (D.int .u8) r.2.b)), .d (.int .i64 r.2.e)]])
theorem index_Source_End_ok (s_ : Source) (r : (Int × Source)) (h : index_Source_End s_ = some r) : Runs L F34.body ⟨tmOf [.ptr [0] 0 0] 0, updW (fun _ => none) [([0], some (.cells [.d (.sl (List.map (D.int .u8) s_.b)), .d (.int .i64 s_.e)] 0))]⟩ (index_Source_End_Q s_ r) := by
  unfold index_Source_End at h
  refine Runs.seq ?_
  refine Runs.ops ?_
  refine RunAt.chunk 1 [⟨.d (.int .i64 0), []⟩] (by kernel_rfl) ?_
  refine RunAt.done (by kernel_rfl) ?_
  refine kS_nrm ?_
  refine Runs.seq ?_
  refine Runs.seq ?_
  refine Runs.ops ?_
  refine RunAt.chunk 1 [⟨.ptr [0] 0 0, []⟩] (by kernel_rfl) ?_
  obtain ⟨r_1, hr_1, h⟩ := bind_s h
  have hc_1 := index_Source_Left_L s_ r_1 hr_1
  refine RunAt.cut (some 4) (.callf 29) [] none [.ptr [0] 0 0] (.d (.int .i64 r_1)) [([0], some (.cells [.d (.sl (List.map (D.int .u8) s_.b)), .d (.int .i64 s_.e)] 0))] (by kernel_rfl) (by kernel_rfl) (by kernel_rfl) (cut_call (call_of (ws := []) (us := [([0], some (.cells [.d (.sl (List.map (D.int .u8) s_.b)), .d (.int .i64 s_.e)] 0))]) (by kernel_rfl) (by kernel_rfl) hc_1 (by kernel_rfl) (by kernel_rfl))) ?_
  refine RunAt.chunk 1 [⟨.d (.bool (decide (r_1 > 0))), []⟩] (by kernel_rfl) ?_
  refine RunAt.done (by kernel_rfl) ?_
  refine kS_nrm ?_
  cases hb_1 : ((decide (r_1 > 0)) : Bool) with
  | true =>
    replace h := ite_t hb_1 h
    refine Runs.cond_t (by kernel_rfl) ?_
    refine Runs.ops ?_
    refine RunAt.chunk 1 [⟨.ptr [0] 0 0, []⟩] (by kernel_rfl) ?_
    obtain ⟨r_2, hr_2, h⟩ := bind_s h
    have hc_2 := index_Source_Wrong_L s_ 3 r_2 hr_2
    refine RunAt.cut (some 7) (.callf 27) [] none [.ptr [0] 0 0, .d (.int .i64 3)] (.tup []) [([0], some (.cells [.d (.sl (List.map (D.int .u8) r_2.b)), .d (.int .i64 r_2.e)] 0))] (by kernel_rfl) (by kernel_rfl) (by kernel_rfl) (cut_call (call_of (ws := []) (us := [([0], some (.cells [.d (.sl (List.map (D.int .u8) r_2.b)), .d (.int .i64 r_2.e)] 0))]) (by kernel_rfl) (by kernel_rfl) hc_2 (by kernel_rfl) (by kernel_rfl))) ?_
    refine RunAt.done (by kernel_rfl) ?_
    refine kS_nrm ?_
    refine Runs.seq ?_
    refine Runs.ops ?_
    refine RunAt.chunk 1 [⟨.ptr [0] 0 0, []⟩] (by kernel_rfl) ?_
    obtain ⟨r_3, hr_3, h⟩ := bind_s h
    have hc_3 := index_Source_Err_L r_2 r_3 hr_3
    refine RunAt.cut (some 9) (.callf 28) [] none [.ptr [0] 0 0] (.d (.int .i64 r_3)) [([0], some (.cells [.d (.sl (List.map (D.int .u8) r_2.b)), .d (.int .i64 r_2.e)] 0))] (by kernel_rfl) (by kernel_rfl) (by kernel_rfl) (cut_call (call_of (ws := []) (us := [([0], some (.cells [.d (.sl (List.map (D.int .u8) r_2.b)), .d (.int .i64 r_2.e)] 0))]) (by kernel_rfl) (by kernel_rfl) hc_3 (by kernel_rfl) (by kernel_rfl))) ?_
    refine RunAt.chunk 1 [⟨.d (.int .i64 r_3), []⟩] (by kernel_rfl) ?_
    refine RunAt.done (by kernel_rfl) ?_
    refine kS_nrm ?_
    refine Runs.ret ?_
    obtain rfl := Option.some.inj h
    exact ⟨Out.ret_ne, (by kernel_rfl)⟩
  | false =>
    replace h := ite_f hb_1 h
    refine Runs.cond_f (by kernel_rfl) ?_
    refine Runs.skip ?_
    refine kS_nrm ?_
    refine Runs.seq ?_
    refine Runs.ops ?_
    refine RunAt.chunk 1 [⟨.ptr [0] 0 0, []⟩] (by kernel_rfl) ?_
    obtain ⟨r_4, hr_4, h⟩ := bind_s h
    have hc_4 := index_Source_Err_L s_ r_4 hr_4
    refine RunAt.cut (some 9) (.callf 28) [] none [.ptr [0] 0 0] (.d (.int .i64 r_4)) [([0], some (.cells [.d (.sl (List.map (D.int .u8) s_.b)), .d (.int .i64 s_.e)] 0))] (by kernel_rfl) (by kernel_rfl) (by kernel_rfl) (cut_call (call_of (ws := []) (us := [([0], some (.cells [.d (.sl (List.map (D.int .u8) s_.b)), .d (.int .i64 s_.e)] 0))]) (by kernel_rfl) (by kernel_rfl) hc_4 (by kernel_rfl) (by kernel_rfl))) ?_
    refine RunAt.chunk 1 [⟨.d (.int .i64 r_4), []⟩] (by kernel_rfl) ?_
    refine RunAt.done (by kernel_rfl) ?_
    refine kS_nrm ?_
    refine Runs.ret ?_
    obtain rfl := Option.some.inj h
    exact ⟨Out.ret_ne, (by kernel_rfl)⟩
theorem index_Source_End_L (s_ : Source) (r : (Int × Source)) (h : index_Source_End s_ = some r) : L 34 [.ptr [.d (.sl (List.map (D.int .u8) s_.b)), .d (.int .i64 s_.e)]] = some (.d (.int .i64 r.1), [.ptr [.d (.sl (List.map (D.int .u8) r.2.b)), .d (.int .i64 r.2.e)]]) := by
  obtain ⟨p, ⟨hne, hf⟩, hr⟩ := index_Source_End_ok s_ r h
  obtain ⟨k, hk⟩ := run_of (F := F34) (args := [.ptr [.d (.sl (List.map (D.int .u8) s_.b)), .d (.int .i64 s_.e)]]) (ap := [.ptr [0] 0 0]) (bx0 := updW (fun _ => none) [([0], some (.cells [.d (.sl (List.map (D.int .u8) s_.b)), .d (.int .i64 s_.e)] 0))]) rfl rfl (by kernel_rfl) ⟨p, ⟨hne, hf⟩, hr⟩
  exact lim_run (k := k) rfl hk
def hansomlaw19_awake_Q  (r : Bool) (p : Out × St) : Prop := (∀ i, p.1 ≠ .exit i) ∧ finF F15 [] p.2 = some (.d (.bool r), [])
theorem hansomlaw19_awake_ok  (r : Bool) (h : hansomlaw19_awake = some r) : Runs L F15.body ⟨tmOf [] 0, updW (fun _ => none) []⟩ (hansomlaw19_awake_Q  r) := by
  unfold hansomlaw19_awake at h
  refine Runs.seq ?_
  refine Runs.ops ?_
  refine RunAt.chunk 1 [⟨.d (.bool false), []⟩] (by kernel_rfl) ?_
  refine RunAt.done (by kernel_rfl) ?_
  refine kS_nrm ?_
  refine Runs.seq ?_
  refine Runs.ops ?_
  refine RunAt.chunk 1 [⟨.ref [4] 0 0 (List.map (D.int .u8) ([129, 44, 2, 65, 66] : List Int)).length 1, [([4], some (.arr (List.map (D.int .u8) ([129, 44, 2, 65, 66] : List Int)) 0 false))]⟩] (by kernel_rfl) ?_
  obtain ⟨r_1, hr_1, h⟩ := bind_s h
  have hc_1 := index_From_L ([129, 44, 2, 65, 66] : List Int) r_1 hr_1
  refine RunAt.cut (some 5) (.callf 25) [] none [.ref [4] 0 0 (List.map (D.int .u8) ([129, 44, 2, 65, 66] : List Int)).length 1] (.ptr [5] 0 0) [([4], some (.arr (List.map (D.int .u8) ([129, 44, 2, 65, 66] : List Int)) 0 true)), ([5], some (.cells [.d (.sl (List.map (D.int .u8) r_1.b)), .d (.int .i64 r_1.e)] 0))] (by kernel_rfl) (by kernel_rfl) (by kernel_rfl) (cut_call (call_of (ws := [([4], some (.arr (List.map (D.int .u8) ([129, 44, 2, 65, 66] : List Int)) 0 true))]) (us := [([4], some (.arr (List.map (D.int .u8) ([129, 44, 2, 65, 66] : List Int)) 0 true))]) (by kernel_rfl) (gives_cons (ws := [([4], some (.arr (List.map (D.int .u8) ([129, 44, 2, 65, 66] : List Int)) 0 true))]) (give_ref (e := (D.int .u8)) (l := ([129, 44, 2, 65, 66] : List Int)) (fz := false) (by kernel_rfl) (by kernel_rfl) rfl) gives_nil) hc_1 (by kernel_rfl) (by kernel_rfl))) ?_
  refine RunAt.chunk 1 [⟨.ptr [5] 0 0, []⟩] (by kernel_rfl) ?_
  refine RunAt.done (by kernel_rfl) ?_
  refine kS_nrm ?_
  refine Runs.seq ?_
  refine Runs.ops ?_
  refine RunAt.chunk 1 [⟨.ptr [5] 0 0, []⟩] (by kernel_rfl) ?_
  obtain ⟨r_2, hr_2, h⟩ := bind_s h
  have hc_2 := index_Source_Index_L r_1 r_2 hr_2
  refine RunAt.cut (some 7) (.callf 31) [] none [.ptr [5] 0 0] (.d (.int .i64 r_2.1)) [([5], some (.cells [.d (.sl (List.map (D.int .u8) r_2.2.b)), .d (.int .i64 r_2.2.e)] 0))] (by kernel_rfl) (by kernel_rfl) (by kernel_rfl) (cut_call (call_of (ws := []) (us := [([5], some (.cells [.d (.sl (List.map (D.int .u8) r_2.2.b)), .d (.int .i64 r_2.2.e)] 0))]) (by kernel_rfl) (by kernel_rfl) hc_2 (by kernel_rfl) (by kernel_rfl))) ?_
  refine RunAt.chunk 1 [⟨.ptr [5] 0 0, []⟩] (by kernel_rfl) ?_
  obtain ⟨r_3, hr_3, h⟩ := bind_s h
  have hc_3 := index_Source_Name_L r_2.2 r_3 hr_3
  refine RunAt.cut (some 9) (.callf 32) [] none [.ptr [5] 0 0] (.d (.str r_3.1)) [([5], some (.cells [.d (.sl (List.map (D.int .u8) r_3.2.b)), .d (.int .i64 r_3.2.e)] 0))] (by kernel_rfl) (by kernel_rfl) (by kernel_rfl) (cut_call (call_of (ws := []) (us := [([5], some (.cells [.d (.sl (List.map (D.int .u8) r_3.2.b)), .d (.int .i64 r_3.2.e)] 0))]) (by kernel_rfl) (by kernel_rfl) hc_3 (by kernel_rfl) (by kernel_rfl))) ?_
  refine RunAt.chunk 2 [⟨.d (.int .i64 r_2.1), []⟩, ⟨.d (.str r_3.1), []⟩] (by kernel_rfl) ?_
  refine RunAt.done (by kernel_rfl) ?_
  refine kS_nrm ?_
  refine Runs.seq ?_
  refine Runs.ops ?_
  obtain ⟨r_4, hr_4, h⟩ := bind_s h
  have hc_4 := index_Put_L 300 r_4 hr_4
  refine RunAt.cut (some 10) (.callf 16) [] none [.d (.int .i64 300)] (.d (.sl (List.map (D.int .u8) r_4))) [] (by kernel_rfl) (by kernel_rfl) (by kernel_rfl) (cut_call (call_of (ws := []) (us := []) (by kernel_rfl) (by kernel_rfl) hc_4 (by kernel_rfl) (by kernel_rfl))) ?_
  refine RunAt.cut (some 11) .bytesStr [] none [.d (.sl (List.map (D.int .u8) r_4))] (.d (.str (b2s r_4))) [] (by kernel_rfl) (by kernel_rfl) (by kernel_rfl) (cut_bs _) ?_
  refine RunAt.chunk 2 [⟨.d (.bool ((b2s r_4) == ([129, 44] : List UInt8))), []⟩, ⟨.d (.bool ((b2s r_4) == ([129, 44] : List UInt8))), []⟩] (by kernel_rfl) ?_
  cases hb_1 : (((b2s r_4) == ([129, 44] : List UInt8)) : Bool) with
  | true =>
    replace h := ite_t hb_1 h
    refine RunAt.chunk 4 [⟨.d (.int .i64 r_2.1), []⟩, ⟨.d (.bool (r_2.1 == 300)), []⟩, ⟨.d (.bool (r_2.1 == 300)), []⟩, ⟨.d (.bool (r_2.1 == 300)), []⟩] (by kernel_rfl) ?_
    cases hb_2 : ((r_2.1 == 300) : Bool) with
    | true =>
      replace h := ite_t hb_2 h
      refine RunAt.chunk 4 [⟨.d (.str r_3.1), []⟩, ⟨.d (.bool (r_3.1 == ([65, 66] : List UInt8))), []⟩, ⟨.d (.bool (r_3.1 == ([65, 66] : List UInt8))), []⟩, ⟨.d (.bool (r_3.1 == ([65, 66] : List UInt8))), []⟩] (by kernel_rfl) ?_
      cases hb_3 : ((r_3.1 == ([65, 66] : List UInt8)) : Bool) with
      | true =>
        replace h := ite_t hb_3 h
        refine RunAt.chunk 1 [⟨.ptr [5] 0 0, []⟩] (by kernel_rfl) ?_
        obtain ⟨r_5, hr_5, h⟩ := bind_s h
        have hc_5 := index_Source_End_L r_3.2 r_5 hr_5
        refine RunAt.cut (some 23) (.callf 34) [] none [.ptr [5] 0 0] (.d (.int .i64 r_5.1)) [([5], some (.cells [.d (.sl (List.map (D.int .u8) r_5.2.b)), .d (.int .i64 r_5.2.e)] 0))] (by kernel_rfl) (by kernel_rfl) (by kernel_rfl) (cut_call (call_of (ws := []) (us := [([5], some (.cells [.d (.sl (List.map (D.int .u8) r_5.2.b)), .d (.int .i64 r_5.2.e)] 0))]) (by kernel_rfl) (by kernel_rfl) hc_5 (by kernel_rfl) (by kernel_rfl))) ?_
        refine RunAt.chunk 3 [⟨.d (.bool (r_5.1 == 0)), []⟩, ⟨.d (.bool (r_5.1 == 0)), []⟩, ⟨.d (.bool (r_5.1 == 0)), []⟩] (by kernel_rfl) ?_
        refine RunAt.done (by kernel_rfl) ?_
        refine kS_nrm ?_
        refine Runs.ret ?_
        obtain rfl := Option.some.inj h
        exact ⟨Out.ret_ne, (by kernel_rfl)⟩
      | false =>
        replace h := ite_f hb_3 h
        refine RunAt.chunk 5 [⟨.tup [], []⟩, ⟨.tup [], []⟩, ⟨.tup [], []⟩, ⟨.d (.bool false), []⟩, ⟨.d (.bool false), []⟩] (by kernel_rfl) ?_
        refine RunAt.done (by kernel_rfl) ?_
        refine kS_nrm ?_
        refine Runs.ret ?_
        obtain rfl := Option.some.inj h
        exact ⟨Out.ret_ne, (by kernel_rfl)⟩
    | false =>
      replace h := ite_f hb_2 h
      refine RunAt.chunk 9 [⟨.tup [], []⟩, ⟨.tup [], []⟩, ⟨.d (.bool false), []⟩, ⟨.d (.bool false), []⟩, ⟨.tup [], []⟩, ⟨.tup [], []⟩, ⟨.tup [], []⟩, ⟨.d (.bool false), []⟩, ⟨.d (.bool false), []⟩] (by kernel_rfl) ?_
      refine RunAt.done (by kernel_rfl) ?_
      refine kS_nrm ?_
      refine Runs.ret ?_
      obtain rfl := Option.some.inj h
      exact ⟨Out.ret_ne, (by kernel_rfl)⟩
  | false =>
    replace h := ite_f hb_1 h
    refine RunAt.chunk 13 [⟨.tup [], []⟩, ⟨.tup [], []⟩, ⟨.d (.bool false), []⟩, ⟨.d (.bool false), []⟩, ⟨.tup [], []⟩, ⟨.tup [], []⟩, ⟨.d (.bool false), []⟩, ⟨.d (.bool false), []⟩, ⟨.tup [], []⟩, ⟨.tup [], []⟩, ⟨.tup [], []⟩, ⟨.d (.bool false), []⟩, ⟨.d (.bool false), []⟩] (by kernel_rfl) ?_
    refine RunAt.done (by kernel_rfl) ?_
    refine kS_nrm ?_
    refine Runs.ret ?_
    obtain rfl := Option.some.inj h
    exact ⟨Out.ret_ne, (by kernel_rfl)⟩
theorem hansomlaw19_awake_L  (r : Bool) (h : hansomlaw19_awake = some r) : L 15 [] = some (.d (.bool r), []) := by
  obtain ⟨p, ⟨hne, hf⟩, hr⟩ := hansomlaw19_awake_ok  r h
  obtain ⟨k, hk⟩ := run_of (F := F15) (args := []) (ap := []) (bx0 := updW (fun _ => none) []) rfl rfl (by kernel_rfl) ⟨p, ⟨hne, hf⟩, hr⟩
  exact lim_run (k := k) rfl hk
def hansomref18_Index_h8 (n0 : Int) : St := ⟨tab [(0, .d (.int .i64 n0))], tabB []⟩
def hansomref18_Index_Q (n_ : Int) (r : (List UInt8)) (p : Out × St) : Prop := (∀ i, p.1 ≠ .exit i) ∧ finF F17 [.d (.int .i64 n_)] p.2 = some (.d (.str r), [.d (.int .i64 n_)])
theorem hansomref18_Index_j8_ok (n_ : Int) (n0 : Int) (r : (List UInt8)) (h : hansomref18_Index_j8 n0 = some r) : Runs L F17b8 (hansomref18_Index_h8 n0) (hansomref18_Index_Q n_ r) := by
  unfold hansomref18_Index_j8 at h
  refine Runs.seq ?_
  refine Runs.seq ?_
  refine Runs.ops ?_
  refine RunAt.chunk 2 [⟨.d (.int .i64 n0), []⟩, ⟨.d (.bool (decide (n0 < 128))), []⟩] (by kernel_rfl) ?_
  refine RunAt.done (by kernel_rfl) ?_
  refine kS_nrm ?_
  cases hb_2 : ((decide (n0 < 128)) : Bool) with
  | true =>
    replace h := ite_t hb_2 h
    refine Runs.cond_t (by kernel_rfl) ?_
    refine Runs.seq ?_
    refine Runs.ops ?_
    refine RunAt.chunk 3 [⟨.d (.int .i64 n0), []⟩, ⟨.d (.int .u8 (IntKind.wrap .u8 n0)), []⟩, ⟨.ref [13] 0 0 (List.map (D.int .u8) ([(IntKind.wrap .u8 n0)] : List Int)).length 1, [([13], some (.arr (List.map (D.int .u8) ([(IntKind.wrap .u8 n0)] : List Int)) 0 false))]⟩] (by kernel_rfl) ?_
    refine RunAt.cut (some 14) .bytesStr [] none [.ref [13] 0 0 (List.map (D.int .u8) ([(IntKind.wrap .u8 n0)] : List Int)).length 1] (.d (.str (b2s ([(IntKind.wrap .u8 n0)] : List Int)))) [] (by kernel_rfl) (by kernel_rfl) (by kernel_rfl) (cut_bsR (l := ([(IntKind.wrap .u8 n0)] : List Int)) (fz := false) (by kernel_rfl) (by kernel_rfl) rfl) ?_
    refine RunAt.chunk 1 [⟨.d (.str (b2s ([(IntKind.wrap .u8 n0)] : List Int))), []⟩] (by kernel_rfl) ?_
    refine RunAt.done (by kernel_rfl) ?_
    refine kS_nrm ?_
    refine Runs.ret ?_
    refine kS_ret ?_
    obtain rfl := Option.some.inj h
    exact ⟨Out.ret_ne, (by kernel_rfl)⟩
  | false =>
    replace h := ite_f hb_2 h
    refine Runs.cond_f (by kernel_rfl) ?_
    refine Runs.skip ?_
    refine kS_nrm ?_
    refine Runs.seq ?_
    refine Runs.ops ?_
    refine RunAt.chunk 8 [⟨.d (.int .i64 n0), []⟩, ⟨.d (.int .i64 (IntKind.wrap .i64 (Int.tdiv n0 256))), []⟩, ⟨.d (.int .i64 (IntKind.wrap .i64 ((IntKind.wrap .i64 (Int.tdiv n0 256)) + 128))), []⟩, ⟨.d (.int .u8 (IntKind.wrap .u8 (IntKind.wrap .i64 ((IntKind.wrap .i64 (Int.tdiv n0 256)) + 128)))), []⟩, ⟨.d (.int .i64 n0), []⟩, ⟨.d (.int .i64 (Int.tmod n0 256)), []⟩, ⟨.d (.int .u8 (IntKind.wrap .u8 (Int.tmod n0 256))), []⟩, ⟨.ref [22] 0 0 (List.map (D.int .u8) ([(IntKind.wrap .u8 (IntKind.wrap .i64 ((IntKind.wrap .i64 (Int.tdiv n0 256)) + 128))), (IntKind.wrap .u8 (Int.tmod n0 256))] : List Int)).length 1, [([22], some (.arr (List.map (D.int .u8) ([(IntKind.wrap .u8 (IntKind.wrap .i64 ((IntKind.wrap .i64 (Int.tdiv n0 256)) + 128))), (IntKind.wrap .u8 (Int.tmod n0 256))] : List Int)) 0 false))]⟩] (by kernel_rfl) ?_
    refine RunAt.cut (some 23) .bytesStr [] none [.ref [22] 0 0 (List.map (D.int .u8) ([(IntKind.wrap .u8 (IntKind.wrap .i64 ((IntKind.wrap .i64 (Int.tdiv n0 256)) + 128))), (IntKind.wrap .u8 (Int.tmod n0 256))] : List Int)).length 1] (.d (.str (b2s ([(IntKind.wrap .u8 (IntKind.wrap .i64 ((IntKind.wrap .i64 (Int.tdiv n0 256)) + 128))), (IntKind.wrap .u8 (Int.tmod n0 256))] : List Int)))) [] (by kernel_rfl) (by kernel_rfl) (by kernel_rfl) (cut_bsR (l := ([(IntKind.wrap .u8 (IntKind.wrap .i64 ((IntKind.wrap .i64 (Int.tdiv n0 256)) + 128))), (IntKind.wrap .u8 (Int.tmod n0 256))] : List Int)) (fz := false) (by kernel_rfl) (by kernel_rfl) rfl) ?_
    refine RunAt.chunk 1 [⟨.d (.str (b2s ([(IntKind.wrap .u8 (IntKind.wrap .i64 ((IntKind.wrap .i64 (Int.tdiv n0 256)) + 128))), (IntKind.wrap .u8 (Int.tmod n0 256))] : List Int))), []⟩] (by kernel_rfl) ?_
    refine RunAt.done (by kernel_rfl) ?_
    refine kS_nrm ?_
    refine Runs.ret ?_
    obtain rfl := Option.some.inj h
    exact ⟨Out.ret_ne, (by kernel_rfl)⟩
theorem hansomref18_Index_ok (n_ : Int) (r : (List UInt8)) (h : hansomref18_Index n_ = some r) : Runs L F17.body ⟨tmOf [.d (.int .i64 n_)] 0, updW (fun _ => none) []⟩ (hansomref18_Index_Q n_ r) := by
  unfold hansomref18_Index at h
  refine Runs.seq ?_
  refine Runs.ops ?_
  refine RunAt.chunk 1 [⟨.d (.str ([] : List UInt8)), []⟩] (by kernel_rfl) ?_
  refine RunAt.done (by kernel_rfl) ?_
  refine kS_nrm ?_
  refine Runs.seq ?_
  refine Runs.seq ?_
  refine Runs.ops ?_
  refine RunAt.chunk 3 [⟨.d (.int .i64 n_), []⟩, ⟨.d (.bool (decide (n_ < 0))), []⟩, ⟨.d (.bool (decide (n_ < 0))), []⟩] (by kernel_rfl) ?_
  cases hb_1 : ((decide (n_ < 0)) : Bool) with
  | true =>
    replace h := ite_t hb_1 h
    refine RunAt.chunk 3 [⟨.tup [], []⟩, ⟨.tup [], []⟩, ⟨.d (.bool true), []⟩] (by kernel_rfl) ?_
    refine RunAt.done (by kernel_rfl) ?_
    refine kS_nrm ?_
    refine Runs.cond_t (by kernel_rfl) ?_
    refine Runs.ops ?_
    refine RunAt.chunk 1 [⟨.d (.int .i64 0), []⟩] (by kernel_rfl) ?_
    refine RunAt.done (by kernel_rfl) ?_
    refine kS_nrm ?_
    refine Runs.canon (hansomref18_Index_h8 0) (Canon.nil (by kernel_rfl)) ?_
    exact hansomref18_Index_j8_ok n_ 0 r h
  | false =>
    replace h := ite_f hb_1 h
    refine RunAt.chunk 3 [⟨.d (.int .i64 n_), []⟩, ⟨.d (.bool (decide (n_ > 32767))), []⟩, ⟨.d (.bool (decide (n_ > 32767))), []⟩] (by kernel_rfl) ?_
    refine RunAt.done (by kernel_rfl) ?_
    refine kS_nrm ?_
    cases hb_3 : ((decide (n_ > 32767)) : Bool) with
    | true =>
      replace h := ite_t hb_3 h
      refine Runs.cond_t (by kernel_rfl) ?_
      refine Runs.ops ?_
      refine RunAt.chunk 1 [⟨.d (.int .i64 0), []⟩] (by kernel_rfl) ?_
      refine RunAt.done (by kernel_rfl) ?_
      refine kS_nrm ?_
      refine Runs.canon (hansomref18_Index_h8 0) (Canon.nil (by kernel_rfl)) ?_
      exact hansomref18_Index_j8_ok n_ 0 r h
    | false =>
      replace h := ite_f hb_3 h
      refine Runs.cond_f (by kernel_rfl) ?_
      refine Runs.skip ?_
      refine kS_nrm ?_
      refine Runs.canon (hansomref18_Index_h8 n_) (Canon.nil (by kernel_rfl)) ?_
      exact hansomref18_Index_j8_ok n_ n_ r h
theorem hansomref18_Index_L (n_ : Int) (r : (List UInt8)) (h : hansomref18_Index n_ = some r) : L 17 [.d (.int .i64 n_)] = some (.d (.str r), [.d (.int .i64 n_)]) := by
  obtain ⟨p, ⟨hne, hf⟩, hr⟩ := hansomref18_Index_ok n_ r h
  obtain ⟨k, hk⟩ := run_of (F := F17) (args := [.d (.int .i64 n_)]) (ap := [.d (.int .i64 n_)]) (bx0 := updW (fun _ => none) []) rfl rfl (by kernel_rfl) ⟨p, ⟨hne, hf⟩, hr⟩
  exact lim_run (k := k) rfl hk
def index_Name_Q (s_ : (List UInt8)) (r : (List Int)) (p : Out × St) : Prop := (∀ i, p.1 ≠ .exit i) ∧ finF F18 [.d (.str s_)] p.2 = some (.d (.sl (List.map (D.int .u8) r)), [.d (.str s_)])
theorem index_Name_ok (s_ : (List UInt8)) (r : (List Int)) (h : index_Name s_ = some r) : Runs L F18.body ⟨tmOf [.d (.str s_)] 0, updW (fun _ => none) []⟩ (index_Name_Q s_ r) := by
  unfold index_Name at h
  refine Runs.seq ?_
  refine Runs.ops ?_
  refine RunAt.chunk 1 [⟨.nils, []⟩] (by kernel_rfl) ?_
  refine RunAt.done (by kernel_rfl) ?_
  refine kS_nrm ?_
  refine Runs.seq ?_
  refine Runs.ops ?_
  refine RunAt.chunk 2 [⟨.d (.str s_), []⟩, ⟨.d (.str s_), []⟩] (by kernel_rfl) ?_
  refine RunAt.cut (some 5) .lenS [] none [.d (.str s_)] (.d (.int .i64 (s_.length : Int))) [] (by kernel_rfl) (by kernel_rfl) (by kernel_rfl) (cut_lenS _) ?_
  refine RunAt.chunk 1 [⟨.d (.int .i64 (mnI (s_.length : Int) 255)), []⟩] (by kernel_rfl) ?_
  obtain ⟨z_1, hz_1, h⟩ := bind_s h
  refine RunAt.cut (some 7) (.substr false true) [] none [.d (.str s_), .d (.int .i64 (mnI (s_.length : Int) 255))] (.d (.str z_1)) [] (by kernel_rfl) (by kernel_rfl) (by kernel_rfl) (cut_strFT hz_1) ?_
  refine RunAt.chunk 1 [⟨.d (.str z_1), []⟩] (by kernel_rfl) ?_
  refine RunAt.done (by kernel_rfl) ?_
  refine kS_nrm ?_
  refine Runs.seq ?_
  refine Runs.ops ?_
  refine RunAt.chunk 1 [⟨.d (.str z_1), []⟩] (by kernel_rfl) ?_
  refine RunAt.cut (some 9) .lenS [] none [.d (.str z_1)] (.d (.int .i64 (z_1.length : Int))) [] (by kernel_rfl) (by kernel_rfl) (by kernel_rfl) (cut_lenS _) ?_
  refine RunAt.chunk 3 [⟨.d (.int .u8 (IntKind.wrap .u8 (z_1.length : Int))), []⟩, ⟨.ref [11] 0 0 (List.map (D.int .u8) ([(IntKind.wrap .u8 (z_1.length : Int))] : List Int)).length 1, [([11], some (.arr (List.map (D.int .u8) ([(IntKind.wrap .u8 (z_1.length : Int))] : List Int)) 0 false))]⟩, ⟨.d (.str z_1), []⟩] (by kernel_rfl) ?_
  obtain ⟨z_2, hz_2, h⟩ := bind_s h
  refine RunAt.cut (some 13) (.append 1 1 true) [] none [.ref [11] 0 0 (List.map (D.int .u8) ([(IntKind.wrap .u8 (z_1.length : Int))] : List Int)).length 1, .d (.str z_1)] (.ref [11] 1 0 (List.map (D.int .u8) z_2).length 1) [([11], some (.arr (List.map (D.int .u8) z_2) 1 false))] (by kernel_rfl) (by kernel_rfl) (by kernel_rfl) (cut_appR (e := (D.int .u8)) (l := ([(IntKind.wrap .u8 (z_1.length : Int))] : List Int)) (fz := false) (ws := []) (ap_str _) (fun _ => rfl) hz_2 (by kernel_rfl) (by kernel_rfl) rfl) ?_
  refine RunAt.chunk 1 [⟨.ref [11] 1 0 (List.map (D.int .u8) z_2).length 1, []⟩] (by kernel_rfl) ?_
  refine RunAt.done (by kernel_rfl) ?_
  refine kS_nrm ?_
  refine Runs.seq ?_
  refine Runs.gcons (frz_ref (e := (D.int .u8)) (l := z_2) (id := [11]) (v := 1) (n := 1) (fz := false) (by kernel_rfl) (by kernel_rfl) rfl) ?_
  refine Runs.gnil ?_
  refine kS_nrm ?_
  refine Runs.ret ?_
  obtain rfl := Option.some.inj h
  exact ⟨Out.ret_ne, (by kernel_rfl)⟩
theorem index_Name_L (s_ : (List UInt8)) (r : (List Int)) (h : index_Name s_ = some r) : L 18 [.d (.str s_)] = some (.d (.sl (List.map (D.int .u8) r)), [.d (.str s_)]) := by
  obtain ⟨p, ⟨hne, hf⟩, hr⟩ := index_Name_ok s_ r h
  obtain ⟨k, hk⟩ := run_of (F := F18) (args := [.d (.str s_)]) (ap := [.d (.str s_)]) (bx0 := updW (fun _ => none) []) rfl rfl (by kernel_rfl) ⟨p, ⟨hne, hf⟩, hr⟩
  exact lim_run (k := k) rfl hk
def hansomref18_Name_Q (s_ : (List UInt8)) (r : (List UInt8)) (p : Out × St) : Prop := (∀ i, p.1 ≠ .exit i) ∧ finF F19 [.d (.str s_)] p.2 = some (.d (.str r), [.d (.str s_)])
theorem hansomref18_Name_ok (s_ : (List UInt8)) (r : (List UInt8)) (h : hansomref18_Name s_ = some r) : Runs L F19.body ⟨tmOf [.d (.str s_)] 0, updW (fun _ => none) []⟩ (hansomref18_Name_Q s_ r) := by
  unfold hansomref18_Name at h
  refine Runs.seq ?_
  refine Runs.ops ?_
  refine RunAt.chunk 1 [⟨.d (.str ([] : List UInt8)), []⟩] (by kernel_rfl) ?_
  refine RunAt.done (by kernel_rfl) ?_
  refine kS_nrm ?_
  refine Runs.seq ?_
  refine Runs.seq ?_
  refine Runs.ops ?_
  refine RunAt.chunk 1 [⟨.d (.str s_), []⟩] (by kernel_rfl) ?_
  refine RunAt.cut (some 4) .lenS [] none [.d (.str s_)] (.d (.int .i64 (s_.length : Int))) [] (by kernel_rfl) (by kernel_rfl) (by kernel_rfl) (cut_lenS _) ?_
  refine RunAt.chunk 1 [⟨.d (.bool (decide ((s_.length : Int) > 255))), []⟩] (by kernel_rfl) ?_
  refine RunAt.done (by kernel_rfl) ?_
  refine kS_nrm ?_
  cases hb_1 : ((decide ((s_.length : Int) > 255)) : Bool) with
  | true =>
    replace h := ite_t hb_1 h
    refine Runs.cond_t (by kernel_rfl) ?_
    refine Runs.ops ?_
    refine RunAt.chunk 1 [⟨.d (.str s_), []⟩] (by kernel_rfl) ?_
    obtain ⟨z_1, hz_1, h⟩ := bind_s h
    refine RunAt.cut (some 7) (.substr false true) [] none [.d (.str s_), .d (.int .i64 255)] (.d (.str z_1)) [] (by kernel_rfl) (by kernel_rfl) (by kernel_rfl) (cut_strFT hz_1) ?_
    refine RunAt.chunk 1 [⟨.d (.str z_1), []⟩] (by kernel_rfl) ?_
    refine RunAt.done (by kernel_rfl) ?_
    refine kS_nrm ?_
    refine Runs.seq ?_
    refine Runs.ops ?_
    refine RunAt.chunk 1 [⟨.d (.str z_1), []⟩] (by kernel_rfl) ?_
    refine RunAt.cut (some 9) .lenS [] none [.d (.str z_1)] (.d (.int .i64 (z_1.length : Int))) [] (by kernel_rfl) (by kernel_rfl) (by kernel_rfl) (cut_lenS _) ?_
    refine RunAt.chunk 2 [⟨.d (.int .u8 (IntKind.wrap .u8 (z_1.length : Int))), []⟩, ⟨.ref [11] 0 0 (List.map (D.int .u8) ([(IntKind.wrap .u8 (z_1.length : Int))] : List Int)).length 1, [([11], some (.arr (List.map (D.int .u8) ([(IntKind.wrap .u8 (z_1.length : Int))] : List Int)) 0 false))]⟩] (by kernel_rfl) ?_
    refine RunAt.cut (some 12) .bytesStr [] none [.ref [11] 0 0 (List.map (D.int .u8) ([(IntKind.wrap .u8 (z_1.length : Int))] : List Int)).length 1] (.d (.str (b2s ([(IntKind.wrap .u8 (z_1.length : Int))] : List Int)))) [] (by kernel_rfl) (by kernel_rfl) (by kernel_rfl) (cut_bsR (l := ([(IntKind.wrap .u8 (z_1.length : Int))] : List Int)) (fz := false) (by kernel_rfl) (by kernel_rfl) rfl) ?_
    refine RunAt.chunk 1 [⟨.d (.str z_1), []⟩] (by kernel_rfl) ?_
    obtain ⟨z_2, hz_2, h⟩ := bind_s h
    refine RunAt.cut (some 14) (.bin .add) [] none [.d (.str (b2s ([(IntKind.wrap .u8 (z_1.length : Int))] : List Int))), .d (.str z_1)] (.d (.str z_2)) [] (by kernel_rfl) (by kernel_rfl) (by kernel_rfl) (cut_cat hz_2) ?_
    refine RunAt.chunk 1 [⟨.d (.str z_2), []⟩] (by kernel_rfl) ?_
    refine RunAt.done (by kernel_rfl) ?_
    refine kS_nrm ?_
    refine Runs.ret ?_
    obtain rfl := Option.some.inj h
    exact ⟨Out.ret_ne, (by kernel_rfl)⟩
  | false =>
    replace h := ite_f hb_1 h
    refine Runs.cond_f (by kernel_rfl) ?_
    refine Runs.skip ?_
    refine kS_nrm ?_
    refine Runs.seq ?_
    refine Runs.ops ?_
    refine RunAt.chunk 1 [⟨.d (.str s_), []⟩] (by kernel_rfl) ?_
    refine RunAt.cut (some 9) .lenS [] none [.d (.str s_)] (.d (.int .i64 (s_.length : Int))) [] (by kernel_rfl) (by kernel_rfl) (by kernel_rfl) (cut_lenS _) ?_
    refine RunAt.chunk 2 [⟨.d (.int .u8 (IntKind.wrap .u8 (s_.length : Int))), []⟩, ⟨.ref [11] 0 0 (List.map (D.int .u8) ([(IntKind.wrap .u8 (s_.length : Int))] : List Int)).length 1, [([11], some (.arr (List.map (D.int .u8) ([(IntKind.wrap .u8 (s_.length : Int))] : List Int)) 0 false))]⟩] (by kernel_rfl) ?_
    refine RunAt.cut (some 12) .bytesStr [] none [.ref [11] 0 0 (List.map (D.int .u8) ([(IntKind.wrap .u8 (s_.length : Int))] : List Int)).length 1] (.d (.str (b2s ([(IntKind.wrap .u8 (s_.length : Int))] : List Int)))) [] (by kernel_rfl) (by kernel_rfl) (by kernel_rfl) (cut_bsR (l := ([(IntKind.wrap .u8 (s_.length : Int))] : List Int)) (fz := false) (by kernel_rfl) (by kernel_rfl) rfl) ?_
    refine RunAt.chunk 1 [⟨.d (.str s_), []⟩] (by kernel_rfl) ?_
    obtain ⟨z_3, hz_3, h⟩ := bind_s h
    refine RunAt.cut (some 14) (.bin .add) [] none [.d (.str (b2s ([(IntKind.wrap .u8 (s_.length : Int))] : List Int))), .d (.str s_)] (.d (.str z_3)) [] (by kernel_rfl) (by kernel_rfl) (by kernel_rfl) (cut_cat hz_3) ?_
    refine RunAt.chunk 1 [⟨.d (.str z_3), []⟩] (by kernel_rfl) ?_
    refine RunAt.done (by kernel_rfl) ?_
    refine kS_nrm ?_
    refine Runs.ret ?_
    obtain rfl := Option.some.inj h
    exact ⟨Out.ret_ne, (by kernel_rfl)⟩
theorem hansomref18_Name_L (s_ : (List UInt8)) (r : (List UInt8)) (h : hansomref18_Name s_ = some r) : L 19 [.d (.str s_)] = some (.d (.str r), [.d (.str s_)]) := by
  obtain ⟨p, ⟨hne, hf⟩, hr⟩ := hansomref18_Name_ok s_ r h
  obtain ⟨k, hk⟩ := run_of (F := F19) (args := [.d (.str s_)]) (ap := [.d (.str s_)]) (bx0 := updW (fun _ => none) []) rfl rfl (by kernel_rfl) ⟨p, ⟨hne, hf⟩, hr⟩
  exact lim_run (k := k) rfl hk
def bits_Low_Q (w_ : Int) (r : Int) (p : Out × St) : Prop := (∀ i, p.1 ≠ .exit i) ∧ finF F67 [.d (.int .u16 w_)] p.2 = some (.d (.int .u8 r), [.d (.int .u16 w_)])
theorem bits_Low_ok (w_ : Int) (r : Int) (h : bits_Low w_ = some r) : Runs L F67.body ⟨tmOf [.d (.int .u16 w_)] 0, updW (fun _ => none) []⟩ (bits_Low_Q w_ r) := by
  unfold bits_Low at h
  refine Runs.seq ?_
  refine Runs.ops ?_
  refine RunAt.chunk 1 [⟨.d (.int .u8 0), []⟩] (by kernel_rfl) ?_
  refine RunAt.done (by kernel_rfl) ?_
  refine kS_nrm ?_
  refine Runs.seq ?_
  refine Runs.ops ?_
  refine RunAt.chunk 3 [⟨.d (.int .u16 w_), []⟩, ⟨.d (.int .u8 (IntKind.wrap .u8 w_)), []⟩, ⟨.d (.int .u8 (IntKind.wrap .u8 w_)), []⟩] (by kernel_rfl) ?_
  refine RunAt.done (by kernel_rfl) ?_
  refine kS_nrm ?_
  refine Runs.ret ?_
  obtain rfl := Option.some.inj h
  exact ⟨Out.ret_ne, (by kernel_rfl)⟩
theorem bits_Low_L (w_ : Int) (r : Int) (h : bits_Low w_ = some r) : L 67 [.d (.int .u16 w_)] = some (.d (.int .u8 r), [.d (.int .u16 w_)]) := by
  obtain ⟨p, ⟨hne, hf⟩, hr⟩ := bits_Low_ok w_ r h
  obtain ⟨k, hk⟩ := run_of (F := F67) (args := [.d (.int .u16 w_)]) (ap := [.d (.int .u16 w_)]) (bx0 := updW (fun _ => none) []) rfl rfl (by kernel_rfl) ⟨p, ⟨hne, hf⟩, hr⟩
  exact lim_run (k := k) rfl hk
def bits_High_Q (w_ : Int) (r : Int) (p : Out × St) : Prop := (∀ i, p.1 ≠ .exit i) ∧ finF F68 [.d (.int .u16 w_)] p.2 = some (.d (.int .u8 r), [.d (.int .u16 w_)])
theorem bits_High_ok (w_ : Int) (r : Int) (h : bits_High w_ = some r) : Runs L F68.body ⟨tmOf [.d (.int .u16 w_)] 0, updW (fun _ => none) []⟩ (bits_High_Q w_ r) := by
  unfold bits_High at h
  refine Runs.seq ?_
  refine Runs.ops ?_
  refine RunAt.chunk 1 [⟨.d (.int .u8 0), []⟩] (by kernel_rfl) ?_
  refine RunAt.done (by kernel_rfl) ?_
  refine kS_nrm ?_
  refine Runs.seq ?_
  refine Runs.ops ?_
  refine RunAt.chunk 4 [⟨.d (.int .u16 w_), []⟩, ⟨.d (.int .u16 (shrI .u16 w_ 8)), []⟩, ⟨.d (.int .u8 (IntKind.wrap .u8 (shrI .u16 w_ 8))), []⟩, ⟨.d (.int .u8 (IntKind.wrap .u8 (shrI .u16 w_ 8))), []⟩] (by kernel_rfl) ?_
  refine RunAt.done (by kernel_rfl) ?_
  refine kS_nrm ?_
  refine Runs.ret ?_
  obtain rfl := Option.some.inj h
  exact ⟨Out.ret_ne, (by kernel_rfl)⟩
theorem bits_High_L (w_ : Int) (r : Int) (h : bits_High w_ = some r) : L 68 [.d (.int .u16 w_)] = some (.d (.int .u8 r), [.d (.int .u16 w_)]) := by
  obtain ⟨p, ⟨hne, hf⟩, hr⟩ := bits_High_ok w_ r h
  obtain ⟨k, hk⟩ := run_of (F := F68) (args := [.d (.int .u16 w_)]) (ap := [.d (.int .u16 w_)]) (bx0 := updW (fun _ => none) []) rfl rfl (by kernel_rfl) ⟨p, ⟨hne, hf⟩, hr⟩
  exact lim_run (k := k) rfl hk
def index_Two_Q (w_ : Int) (r : (List Int)) (p : Out × St) : Prop := (∀ i, p.1 ≠ .exit i) ∧ finF F20 [.d (.int .u16 w_)] p.2 = some (.arr false 1 (List.map (D.int .u8) r), [.d (.int .u16 w_)])
theorem index_Two_ok (w_ : Int) (r : (List Int)) (h : index_Two w_ = some r) : Runs L F20.body ⟨tmOf [.d (.int .u16 w_)] 0, updW (fun _ => none) []⟩ (index_Two_Q w_ r) := by
  unfold index_Two at h
  refine Runs.seq ?_
  refine Runs.ops ?_
  refine RunAt.chunk 1 [⟨.nils, []⟩] (by kernel_rfl) ?_
  refine RunAt.done (by kernel_rfl) ?_
  refine kS_nrm ?_
  refine Runs.seq ?_
  refine Runs.ops ?_
  refine RunAt.chunk 1 [⟨.d (.int .u16 w_), []⟩] (by kernel_rfl) ?_
  obtain ⟨r_1, hr_1, h⟩ := bind_s h
  have hc_1 := bits_Low_L w_ r_1 hr_1
  refine RunAt.cut (some 4) (.callf 67) [] none [.d (.int .u16 w_)] (.d (.int .u8 r_1)) [] (by kernel_rfl) (by kernel_rfl) (by kernel_rfl) (cut_call (call_of (ws := []) (us := []) (by kernel_rfl) (by kernel_rfl) hc_1 (by kernel_rfl) (by kernel_rfl))) ?_
  refine RunAt.chunk 1 [⟨.d (.int .u16 w_), []⟩] (by kernel_rfl) ?_
  obtain ⟨r_2, hr_2, h⟩ := bind_s h
  have hc_2 := bits_High_L w_ r_2 hr_2
  refine RunAt.cut (some 6) (.callf 68) [] none [.d (.int .u16 w_)] (.d (.int .u8 r_2)) [] (by kernel_rfl) (by kernel_rfl) (by kernel_rfl) (cut_call (call_of (ws := []) (us := []) (by kernel_rfl) (by kernel_rfl) hc_2 (by kernel_rfl) (by kernel_rfl))) ?_
  refine RunAt.chunk 2 [⟨.ref [7] 0 0 (List.map (D.int .u8) ([r_1, r_2] : List Int)).length 1, [([7], some (.arr (List.map (D.int .u8) ([r_1, r_2] : List Int)) 0 false))]⟩, ⟨.ref [7] 0 0 (List.map (D.int .u8) ([r_1, r_2] : List Int)).length 1, []⟩] (by kernel_rfl) ?_
  refine RunAt.done (by kernel_rfl) ?_
  refine kS_nrm ?_
  refine Runs.ret ?_
  obtain rfl := Option.some.inj h
  exact ⟨Out.ret_ne, (fin_of (rs := [.ref [7] 0 0 (List.map (D.int .u8) ([r_1, r_2] : List Int)).length 1]) (by kernel_rfl) (by kernel_rfl) (outs_own (id := [7]) (v := 0) (fz := false) (es := List.map (D.int .u8) ([r_1, r_2] : List Int)) (by kernel_rfl) (by decide) rfl outs_nil) (gives_cons (give_same (by kernel_rfl)) gives_nil))⟩
theorem index_Two_L (w_ : Int) (r : (List Int)) (h : index_Two w_ = some r) : L 20 [.d (.int .u16 w_)] = some (.arr false 1 (List.map (D.int .u8) r), [.d (.int .u16 w_)]) := by
  obtain ⟨p, ⟨hne, hf⟩, hr⟩ := index_Two_ok w_ r h
  obtain ⟨k, hk⟩ := run_of (F := F20) (args := [.d (.int .u16 w_)]) (ap := [.d (.int .u16 w_)]) (bx0 := updW (fun _ => none) []) rfl rfl (by kernel_rfl) ⟨p, ⟨hne, hf⟩, hr⟩
  exact lim_run (k := k) rfl hk
def hansomref18_Bytes_h8 (n0 : Int) (many1 : Int) (s5 : (List UInt8)) (i6 : Int) : St := ⟨tab [(0, .d (.int .u64 n0)), (1, .d (.int .i64 many1)), (5, .d (.str s5)), (6, .d (.int .i64 i6))], tabB []⟩
def hansomref18_Bytes_h21 (s5 : (List UInt8)) : St := ⟨tab [(5, .d (.str s5))], tabB []⟩
def hansomref18_Bytes_Q (n_ : Int) (many_ : Int) (r : (List UInt8)) (p : Out × St) : Prop := (∀ i, p.1 ≠ .exit i) ∧ finF F21 [.d (.int .u64 n_), .d (.int .i64 many_)] p.2 = some (.d (.str r), [.d (.int .u64 n_), .d (.int .i64 many_)])
def hansomref18_Bytes_P8 (n_ : Int) (many_ : Int) (many1 : Int) (e : (List UInt8)) (p : Out × St) : Prop := p.1 = .exit 0 ∧ ∃ g : Unit, Canon [] [5] [] p.2 (hansomref18_Bytes_h21 e)
theorem hansomref18_Bytes_l8_ok (n_ : Int) (many_ : Int) (n0 : Int) (many1 : Int) (s5 : (List UInt8)) (i6 : Int) (r : (Lp (Int × (List UInt8) × Int) (List UInt8))) (h : hansomref18_Bytes_l8 n0 many1 s5 i6 = some r) : Runs L F21l8 (hansomref18_Bytes_h8 n0 many1 s5 i6) (LQ [] [0, 1, 5, 6] [] (fun (x : (Int × (List UInt8) × Int)) (g : Unit) => hansomref18_Bytes_h8 x.1 many1 x.2.1 x.2.2) (hansomref18_Bytes_P8 n_ many_ many1) r) := by
  unfold hansomref18_Bytes_l8 at h
  refine Runs.seq ?_
  refine Runs.seq ?_
  refine Runs.ops ?_
  refine RunAt.chunk 3 [⟨.d (.int .i64 i6), []⟩, ⟨.d (.int .i64 many1), []⟩, ⟨.d (.bool (decide (i6 < many1))), []⟩] (by kernel_rfl) ?_
  refine RunAt.done (by kernel_rfl) ?_
  refine kS_nrm ?_
  cases hb_1 : ((decide (i6 < many1)) : Bool) with
  | true =>
    replace h := ite_t hb_1 h
    refine Runs.cond_t (by kernel_rfl) ?_
    refine Runs.skip ?_
    refine kS_nrm ?_
    refine Runs.seq ?_
    refine Runs.block ?_
    refine Runs.seq ?_
    refine Runs.ops ?_
    refine RunAt.chunk 5 [⟨.d (.str s5), []⟩, ⟨.d (.int .u64 n0), []⟩, ⟨.d (.int .u64 (Int.tmod n0 256)), []⟩, ⟨.d (.int .u8 (IntKind.wrap .u8 (Int.tmod n0 256))), []⟩, ⟨.ref [16] 0 0 (List.map (D.int .u8) ([(IntKind.wrap .u8 (Int.tmod n0 256))] : List Int)).length 1, [([16], some (.arr (List.map (D.int .u8) ([(IntKind.wrap .u8 (Int.tmod n0 256))] : List Int)) 0 false))]⟩] (by kernel_rfl) ?_
    refine RunAt.cut (some 17) .bytesStr [] none [.ref [16] 0 0 (List.map (D.int .u8) ([(IntKind.wrap .u8 (Int.tmod n0 256))] : List Int)).length 1] (.d (.str (b2s ([(IntKind.wrap .u8 (Int.tmod n0 256))] : List Int)))) [] (by kernel_rfl) (by kernel_rfl) (by kernel_rfl) (cut_bsR (l := ([(IntKind.wrap .u8 (Int.tmod n0 256))] : List Int)) (fz := false) (by kernel_rfl) (by kernel_rfl) rfl) ?_
    obtain ⟨z_1, hz_1, h⟩ := bind_s h
    refine RunAt.cut (some 18) (.bin .add) [] none [.d (.str s5), .d (.str (b2s ([(IntKind.wrap .u8 (Int.tmod n0 256))] : List Int)))] (.d (.str z_1)) [] (by kernel_rfl) (by kernel_rfl) (by kernel_rfl) (cut_cat hz_1) ?_
    refine RunAt.chunk 1 [⟨.d (.str z_1), []⟩] (by kernel_rfl) ?_
    refine RunAt.done (by kernel_rfl) ?_
    refine kS_nrm ?_
    refine Runs.ops ?_
    refine RunAt.chunk 3 [⟨.d (.int .u64 n0), []⟩, ⟨.d (.int .u64 (IntKind.wrap .u64 (Int.tdiv n0 256))), []⟩, ⟨.d (.int .u64 (IntKind.wrap .u64 (Int.tdiv n0 256))), []⟩] (by kernel_rfl) ?_
    refine RunAt.done (by kernel_rfl) ?_
    refine kB_nrm ?_
    refine kS_nrm ?_
    refine Runs.ops ?_
    refine RunAt.chunk 3 [⟨.d (.int .i64 i6), []⟩, ⟨.d (.int .i64 (IntKind.wrap .i64 (i6 + 1))), []⟩, ⟨.d (.int .i64 (IntKind.wrap .i64 (i6 + 1))), []⟩] (by kernel_rfl) ?_
    refine RunAt.done (by kernel_rfl) ?_
    obtain rfl := Option.some.inj h
    exact ⟨rfl, (), (Canon.nil (by kernel_rfl))⟩
  | false =>
    replace h := ite_f hb_1 h
    refine Runs.cond_f (by kernel_rfl) ?_
    refine Runs.exit ?_
    refine kS_exit ?_
    obtain rfl := Option.some.inj h
    exact ⟨nofun, rfl, (), (Canon.nil (by kernel_rfl))⟩
theorem hansomref18_Bytes_ok (n_ : Int) (many_ : Int) (r : (List UInt8)) (h : hansomref18_Bytes n_ many_ = some r) : Runs L F21.body ⟨tmOf [.d (.int .u64 n_), .d (.int .i64 many_)] 0, updW (fun _ => none) []⟩ (hansomref18_Bytes_Q n_ many_ r) := by
  unfold hansomref18_Bytes at h
  refine Runs.seq ?_
  refine Runs.ops ?_
  refine RunAt.chunk 1 [⟨.d (.str ([] : List UInt8)), []⟩] (by kernel_rfl) ?_
  refine RunAt.done (by kernel_rfl) ?_
  refine kS_nrm ?_
  refine Runs.seq ?_
  refine Runs.ops ?_
  refine RunAt.chunk 1 [⟨.d (.str ([] : List UInt8)), []⟩] (by kernel_rfl) ?_
  refine RunAt.done (by kernel_rfl) ?_
  refine kS_nrm ?_
  refine Runs.seq ?_
  refine Runs.seq ?_
  refine Runs.ops ?_
  refine RunAt.chunk 1 [⟨.d (.int .i64 0), []⟩] (by kernel_rfl) ?_
  refine RunAt.done (by kernel_rfl) ?_
  refine kS_nrm ?_
  refine Runs.block ?_
  obtain ⟨e_1, he_1, h⟩ := bind_s h
  refine Runs.loop (fun x : (Int × (List UInt8) × Int) => hansomref18_Bytes_l8 x.1 many_ x.2.1 x.2.2) (fun (x : (Int × (List UInt8) × Int)) (g : Unit) => hansomref18_Bytes_h8 x.1 many_ x.2.1 x.2.2) (hansomref18_Bytes_P8 n_ many_ many_) (fun x g r hr => hansomref18_Bytes_l8_ok n_ many_ x.1 many_ x.2.1 x.2.2  r hr) () he_1 (Canon.nil (by kernel_rfl)) ?_
  rintro ⟨o, s⟩ hp
  obtain ⟨ho, g_1, hk_1⟩ := hp
  have ho' : o = .exit 0 := ho
  subst ho'
  refine kB_hit ?_
  refine kS_nrm ?_
  refine Runs.canon _ hk_1 ?_
  refine Runs.seq ?_
  refine Runs.ops ?_
  refine RunAt.chunk 2 [⟨.d (.str e_1), []⟩, ⟨.d (.str e_1), []⟩] (by kernel_rfl) ?_
  refine RunAt.done (by kernel_rfl) ?_
  refine kS_nrm ?_
  refine Runs.ret ?_
  obtain rfl := Option.some.inj h
  exact ⟨Out.ret_ne, (by kernel_rfl)⟩
theorem hansomref18_Bytes_L (n_ : Int) (many_ : Int) (r : (List UInt8)) (h : hansomref18_Bytes n_ many_ = some r) : L 21 [.d (.int .u64 n_), .d (.int .i64 many_)] = some (.d (.str r), [.d (.int .u64 n_), .d (.int .i64 many_)]) := by
  obtain ⟨p, ⟨hne, hf⟩, hr⟩ := hansomref18_Bytes_ok n_ many_ r h
  obtain ⟨k, hk⟩ := run_of (F := F21) (args := [.d (.int .u64 n_), .d (.int .i64 many_)]) (ap := [.d (.int .u64 n_), .d (.int .i64 many_)]) (bx0 := updW (fun _ => none) []) rfl rfl (by kernel_rfl) ⟨p, ⟨hne, hf⟩, hr⟩
  exact lim_run (k := k) rfl hk
def index_Four_Q (n_ : Int) (r : (List Int)) (p : Out × St) : Prop := (∀ i, p.1 ≠ .exit i) ∧ finF F22 [.d (.int .u32 n_)] p.2 = some (.d (.sl (List.map (D.int .u8) r)), [.d (.int .u32 n_)])
theorem index_Four_ok (n_ : Int) (r : (List Int)) (h : index_Four n_ = some r) : Runs L F22.body ⟨tmOf [.d (.int .u32 n_)] 0, updW (fun _ => none) []⟩ (index_Four_Q n_ r) := by
  unfold index_Four at h
  refine Runs.seq ?_
  refine Runs.ops ?_
  refine RunAt.chunk 1 [⟨.nils, []⟩] (by kernel_rfl) ?_
  refine RunAt.done (by kernel_rfl) ?_
  refine kS_nrm ?_
  refine Runs.seq ?_
  refine Runs.ops ?_
  refine RunAt.chunk 2 [⟨.d (.int .u32 n_), []⟩, ⟨.d (.int .u16 (IntKind.wrap .u16 n_)), []⟩] (by kernel_rfl) ?_
  obtain ⟨r_1, hr_1, h⟩ := bind_s h
  have hc_1 := index_Two_L (IntKind.wrap .u16 n_) r_1 hr_1
  refine RunAt.cut (some 5) (.callf 20) [] none [.d (.int .u16 (IntKind.wrap .u16 n_))] (.ref [5] 0 0 (List.map (D.int .u8) r_1).length 1) [([5], some (.arr (List.map (D.int .u8) r_1) 0 false))] (by kernel_rfl) (by kernel_rfl) (by kernel_rfl) (cut_call (call_of (ws := []) (us := []) (by kernel_rfl) (gives_cons (ws := []) (give_same (by kernel_rfl)) gives_nil) hc_1 (by kernel_rfl) (by kernel_rfl))) ?_
  refine RunAt.chunk 3 [⟨.d (.int .u32 n_), []⟩, ⟨.d (.int .u32 (shrI .u32 n_ 16)), []⟩, ⟨.d (.int .u16 (IntKind.wrap .u16 (shrI .u32 n_ 16))), []⟩] (by kernel_rfl) ?_
  obtain ⟨r_2, hr_2, h⟩ := bind_s h
  have hc_2 := index_Two_L (IntKind.wrap .u16 (shrI .u32 n_ 16)) r_2 hr_2
  refine RunAt.cut (some 9) (.callf 20) [] none [.d (.int .u16 (IntKind.wrap .u16 (shrI .u32 n_ 16)))] (.ref [9] 0 0 (List.map (D.int .u8) r_2).length 1) [([9], some (.arr (List.map (D.int .u8) r_2) 0 false))] (by kernel_rfl) (by kernel_rfl) (by kernel_rfl) (cut_call (call_of (ws := []) (us := []) (by kernel_rfl) (gives_cons (ws := []) (give_same (by kernel_rfl)) gives_nil) hc_2 (by kernel_rfl) (by kernel_rfl))) ?_
  obtain ⟨z_1, hz_1, h⟩ := bind_s h
  refine RunAt.cut (some 10) (.append 1 1 false) [] none [.ref [5] 0 0 (List.map (D.int .u8) r_1).length 1, .ref [9] 0 0 (List.map (D.int .u8) r_2).length 1] (.ref [5] 1 0 (List.map (D.int .u8) z_1).length 1) [([9], some (.arr (List.map (D.int .u8) r_2) 0 true)), ([5], some (.arr (List.map (D.int .u8) z_1) 1 false))] (by kernel_rfl) (by kernel_rfl) (by kernel_rfl) (cut_appR (e := (D.int .u8)) (l := r_1) (fz := false) (ws := [([9], some (.arr (List.map (D.int .u8) r_2) 0 true))]) (ap_ref (e := (D.int .u8)) (l := r_2) (fz := false) (by kernel_rfl) (by kernel_rfl) rfl) (fun _ => rfl) hz_1 (by kernel_rfl) (by kernel_rfl) rfl) ?_
  refine RunAt.chunk 1 [⟨.ref [5] 1 0 (List.map (D.int .u8) z_1).length 1, []⟩] (by kernel_rfl) ?_
  refine RunAt.done (by kernel_rfl) ?_
  refine kS_nrm ?_
  refine Runs.seq ?_
  refine Runs.gcons (frz_ref (e := (D.int .u8)) (l := z_1) (id := [5]) (v := 1) (n := 1) (fz := false) (by kernel_rfl) (by kernel_rfl) rfl) ?_
  refine Runs.gnil ?_
  refine kS_nrm ?_
  refine Runs.ret ?_
  obtain rfl := Option.some.inj h
  exact ⟨Out.ret_ne, (by kernel_rfl)⟩
theorem index_Four_L (n_ : Int) (r : (List Int)) (h : index_Four n_ = some r) : L 22 [.d (.int .u32 n_)] = some (.d (.sl (List.map (D.int .u8) r)), [.d (.int .u32 n_)]) := by
  obtain ⟨p, ⟨hne, hf⟩, hr⟩ := index_Four_ok n_ r h
  obtain ⟨k, hk⟩ := run_of (F := F22) (args := [.d (.int .u32 n_)]) (ap := [.d (.int .u32 n_)]) (bx0 := updW (fun _ => none) []) rfl rfl (by kernel_rfl) ⟨p, ⟨hne, hf⟩, hr⟩
  exact lim_run (k := k) rfl hk
def index_Long_Q (n_ : Int) (r : (List Int)) (p : Out × St) : Prop := (∀ i, p.1 ≠ .exit i) ∧ finF F23 [.d (.int .u32 n_)] p.2 = some (.d (.sl (List.map (D.int .u8) r)), [.d (.int .u32 n_)])
theorem index_Long_ok (n_ : Int) (r : (List Int)) (h : index_Long n_ = some r) : Runs L F23.body ⟨tmOf [.d (.int .u32 n_)] 0, updW (fun _ => none) []⟩ (index_Long_Q n_ r) := by
  unfold index_Long at h
  refine Runs.seq ?_
  refine Runs.ops ?_
  refine RunAt.chunk 1 [⟨.nils, []⟩] (by kernel_rfl) ?_
  refine RunAt.done (by kernel_rfl) ?_
  refine kS_nrm ?_
  refine Runs.seq ?_
  refine Runs.block ?_
  refine Runs.seq ?_
  refine Runs.ops ?_
  refine RunAt.chunk 3 [⟨.d (.int .u32 n_), []⟩, ⟨.d (.bool (decide (n_ ≤ 128))), []⟩, ⟨.d (.bool (decide (n_ ≤ 128))), []⟩] (by kernel_rfl) ?_
  refine RunAt.done (by kernel_rfl) ?_
  refine kS_nrm ?_
  cases hb_1 : ((decide (n_ ≤ 128)) : Bool) with
  | true =>
    replace h := ite_t hb_1 h
    refine Runs.cond_t (by kernel_rfl) ?_
    refine Runs.seq ?_
    refine Runs.ops ?_
    refine RunAt.chunk 4 [⟨.d (.int .u32 n_), []⟩, ⟨.d (.int .u8 (IntKind.wrap .u8 n_)), []⟩, ⟨.ref [8] 0 0 (List.map (D.int .u8) ([(IntKind.wrap .u8 n_)] : List Int)).length 1, [([8], some (.arr (List.map (D.int .u8) ([(IntKind.wrap .u8 n_)] : List Int)) 0 false))]⟩, ⟨.ref [8] 0 0 (List.map (D.int .u8) ([(IntKind.wrap .u8 n_)] : List Int)).length 1, []⟩] (by kernel_rfl) ?_
    refine RunAt.done (by kernel_rfl) ?_
    refine kS_nrm ?_
    refine Runs.seq ?_
    refine Runs.gcons (frz_ref (e := (D.int .u8)) (l := ([(IntKind.wrap .u8 n_)] : List Int)) (id := [8]) (v := 0) (n := 1) (fz := false) (by kernel_rfl) (by kernel_rfl) rfl) ?_
    refine Runs.gnil ?_
    refine kS_nrm ?_
    refine Runs.ret ?_
    refine kB_ret ?_
    refine kS_ret ?_
    obtain rfl := Option.some.inj h
    exact ⟨Out.ret_ne, (by kernel_rfl)⟩
  | false =>
    replace h := ite_f hb_1 h
    refine Runs.cond_f (by kernel_rfl) ?_
    refine Runs.seq ?_
    refine Runs.ops ?_
    refine RunAt.chunk 3 [⟨.d (.int .u32 n_), []⟩, ⟨.d (.bool (decide (n_ < 65536))), []⟩, ⟨.d (.bool (decide (n_ < 65536))), []⟩] (by kernel_rfl) ?_
    refine RunAt.done (by kernel_rfl) ?_
    refine kS_nrm ?_
    cases hb_2 : ((decide (n_ < 65536)) : Bool) with
    | true =>
      replace h := ite_t hb_2 h
      refine Runs.cond_t (by kernel_rfl) ?_
      refine Runs.seq ?_
      refine Runs.ops ?_
      refine RunAt.chunk 3 [⟨.ref [12] 0 0 (List.map (D.int .u8) ([129] : List Int)).length 1, [([12], some (.arr (List.map (D.int .u8) ([129] : List Int)) 0 false))]⟩, ⟨.d (.int .u32 n_), []⟩, ⟨.d (.int .u16 (IntKind.wrap .u16 n_)), []⟩] (by kernel_rfl) ?_
      obtain ⟨r_1, hr_1, h⟩ := bind_s h
      have hc_1 := index_Two_L (IntKind.wrap .u16 n_) r_1 hr_1
      refine RunAt.cut (some 15) (.callf 20) [] none [.d (.int .u16 (IntKind.wrap .u16 n_))] (.ref [15] 0 0 (List.map (D.int .u8) r_1).length 1) [([15], some (.arr (List.map (D.int .u8) r_1) 0 false))] (by kernel_rfl) (by kernel_rfl) (by kernel_rfl) (cut_call (call_of (ws := []) (us := []) (by kernel_rfl) (gives_cons (ws := []) (give_same (by kernel_rfl)) gives_nil) hc_1 (by kernel_rfl) (by kernel_rfl))) ?_
      obtain ⟨z_1, hz_1, h⟩ := bind_s h
      refine RunAt.cut (some 16) (.append 1 1 false) [] none [.ref [12] 0 0 (List.map (D.int .u8) ([129] : List Int)).length 1, .ref [15] 0 0 (List.map (D.int .u8) r_1).length 1] (.ref [12] 1 0 (List.map (D.int .u8) z_1).length 1) [([15], some (.arr (List.map (D.int .u8) r_1) 0 true)), ([12], some (.arr (List.map (D.int .u8) z_1) 1 false))] (by kernel_rfl) (by kernel_rfl) (by kernel_rfl) (cut_appR (e := (D.int .u8)) (l := ([129] : List Int)) (fz := false) (ws := [([15], some (.arr (List.map (D.int .u8) r_1) 0 true))]) (ap_ref (e := (D.int .u8)) (l := r_1) (fz := false) (by kernel_rfl) (by kernel_rfl) rfl) (fun _ => rfl) hz_1 (by kernel_rfl) (by kernel_rfl) rfl) ?_
      refine RunAt.chunk 1 [⟨.ref [12] 1 0 (List.map (D.int .u8) z_1).length 1, []⟩] (by kernel_rfl) ?_
      refine RunAt.done (by kernel_rfl) ?_
      refine kS_nrm ?_
      refine Runs.seq ?_
      refine Runs.gcons (frz_ref (e := (D.int .u8)) (l := z_1) (id := [12]) (v := 1) (n := 1) (fz := false) (by kernel_rfl) (by kernel_rfl) rfl) ?_
      refine Runs.gnil ?_
      refine kS_nrm ?_
      refine Runs.ret ?_
      refine kB_ret ?_
      refine kS_ret ?_
      obtain rfl := Option.some.inj h
      exact ⟨Out.ret_ne, (by kernel_rfl)⟩
    | false =>
      replace h := ite_f hb_2 h
      refine Runs.cond_f (by kernel_rfl) ?_
      refine Runs.seq ?_
      refine Runs.ops ?_
      refine RunAt.chunk 3 [⟨.d (.int .u32 n_), []⟩, ⟨.d (.bool (decide (n_ < 16777216))), []⟩, ⟨.d (.bool (decide (n_ < 16777216))), []⟩] (by kernel_rfl) ?_
      refine RunAt.done (by kernel_rfl) ?_
      refine kS_nrm ?_
      cases hb_3 : ((decide (n_ < 16777216)) : Bool) with
      | true =>
        replace h := ite_t hb_3 h
        refine Runs.cond_t (by kernel_rfl) ?_
        refine Runs.seq ?_
        refine Runs.ops ?_
        refine RunAt.chunk 2 [⟨.ref [20] 0 0 (List.map (D.int .u8) ([132] : List Int)).length 1, [([20], some (.arr (List.map (D.int .u8) ([132] : List Int)) 0 false))]⟩, ⟨.d (.int .u32 n_), []⟩] (by kernel_rfl) ?_
        obtain ⟨r_2, hr_2, h⟩ := bind_s h
        have hc_2 := index_Four_L n_ r_2 hr_2
        refine RunAt.cut (some 22) (.callf 22) [] none [.d (.int .u32 n_)] (.d (.sl (List.map (D.int .u8) r_2))) [] (by kernel_rfl) (by kernel_rfl) (by kernel_rfl) (cut_call (call_of (ws := []) (us := []) (by kernel_rfl) (by kernel_rfl) hc_2 (by kernel_rfl) (by kernel_rfl))) ?_
        obtain ⟨z_2, hz_2, h⟩ := bind_s h
        refine RunAt.cut (some 23) (.subsl 1 false true false) [] none [.d (.sl (List.map (D.int .u8) r_2)), .d (.int .i64 3)] (.d (.sl (List.map (D.int .u8) z_2))) [] (by kernel_rfl) (by kernel_rfl) (by kernel_rfl) (cut_slFT hz_2 (fun _ => rfl)) ?_
        obtain ⟨z_3, hz_3, h⟩ := bind_s h
        refine RunAt.cut (some 24) (.append 1 1 false) [] none [.ref [20] 0 0 (List.map (D.int .u8) ([132] : List Int)).length 1, .d (.sl (List.map (D.int .u8) z_2))] (.ref [20] 1 0 (List.map (D.int .u8) z_3).length 1) [([20], some (.arr (List.map (D.int .u8) z_3) 1 false))] (by kernel_rfl) (by kernel_rfl) (by kernel_rfl) (cut_appR (e := (D.int .u8)) (l := ([132] : List Int)) (fz := false) (ws := []) (ap_data _) (fun _ => rfl) hz_3 (by kernel_rfl) (by kernel_rfl) rfl) ?_
        refine RunAt.chunk 1 [⟨.ref [20] 1 0 (List.map (D.int .u8) z_3).length 1, []⟩] (by kernel_rfl) ?_
        refine RunAt.done (by kernel_rfl) ?_
        refine kS_nrm ?_
        refine Runs.seq ?_
        refine Runs.gcons (frz_ref (e := (D.int .u8)) (l := z_3) (id := [20]) (v := 1) (n := 1) (fz := false) (by kernel_rfl) (by kernel_rfl) rfl) ?_
        refine Runs.gnil ?_
        refine kS_nrm ?_
        refine Runs.ret ?_
        refine kB_ret ?_
        refine kS_ret ?_
        obtain rfl := Option.some.inj h
        exact ⟨Out.ret_ne, (by kernel_rfl)⟩
      | false =>
        replace h := ite_f hb_3 h
        refine Runs.cond_f (by kernel_rfl) ?_
        refine Runs.skip ?_
        refine kB_nrm ?_
        refine kS_nrm ?_
        refine Runs.seq ?_
        refine Runs.ops ?_
        refine RunAt.chunk 2 [⟨.ref [25] 0 0 (List.map (D.int .u8) ([136] : List Int)).length 1, [([25], some (.arr (List.map (D.int .u8) ([136] : List Int)) 0 false))]⟩, ⟨.d (.int .u32 n_), []⟩] (by kernel_rfl) ?_
        obtain ⟨r_3, hr_3, h⟩ := bind_s h
        have hc_3 := index_Four_L n_ r_3 hr_3
        refine RunAt.cut (some 27) (.callf 22) [] none [.d (.int .u32 n_)] (.d (.sl (List.map (D.int .u8) r_3))) [] (by kernel_rfl) (by kernel_rfl) (by kernel_rfl) (cut_call (call_of (ws := []) (us := []) (by kernel_rfl) (by kernel_rfl) hc_3 (by kernel_rfl) (by kernel_rfl))) ?_
        obtain ⟨z_4, hz_4, h⟩ := bind_s h
        refine RunAt.cut (some 28) (.append 1 1 false) [] none [.ref [25] 0 0 (List.map (D.int .u8) ([136] : List Int)).length 1, .d (.sl (List.map (D.int .u8) r_3))] (.ref [25] 1 0 (List.map (D.int .u8) z_4).length 1) [([25], some (.arr (List.map (D.int .u8) z_4) 1 false))] (by kernel_rfl) (by kernel_rfl) (by kernel_rfl) (cut_appR (e := (D.int .u8)) (l := ([136] : List Int)) (fz := false) (ws := []) (ap_data _) (fun _ => rfl) hz_4 (by kernel_rfl) (by kernel_rfl) rfl) ?_
        refine RunAt.chunk 1 [⟨.ref [25] 1 0 (List.map (D.int .u8) z_4).length 1, []⟩] (by kernel_rfl) ?_
        refine RunAt.done (by kernel_rfl) ?_
        refine kS_nrm ?_
        refine Runs.seq ?_
        refine Runs.gcons (frz_ref (e := (D.int .u8)) (l := z_4) (id := [25]) (v := 1) (n := 1) (fz := false) (by kernel_rfl) (by kernel_rfl) rfl) ?_
        refine Runs.gnil ?_
        refine kS_nrm ?_
        refine Runs.ret ?_
        obtain rfl := Option.some.inj h
        exact ⟨Out.ret_ne, (by kernel_rfl)⟩
theorem index_Long_L (n_ : Int) (r : (List Int)) (h : index_Long n_ = some r) : L 23 [.d (.int .u32 n_)] = some (.d (.sl (List.map (D.int .u8) r)), [.d (.int .u32 n_)]) := by
  obtain ⟨p, ⟨hne, hf⟩, hr⟩ := index_Long_ok n_ r h
  obtain ⟨k, hk⟩ := run_of (F := F23) (args := [.d (.int .u32 n_)]) (ap := [.d (.int .u32 n_)]) (bx0 := updW (fun _ => none) []) rfl rfl (by kernel_rfl) ⟨p, ⟨hne, hf⟩, hr⟩
  exact lim_run (k := k) rfl hk
def hansomref18_Long_Q (n_ : Int) (r : (List UInt8)) (p : Out × St) : Prop := (∀ i, p.1 ≠ .exit i) ∧ finF F24 [.d (.int .u32 n_)] p.2 = some (.d (.str r), [.d (.int .u32 n_)])
theorem hansomref18_Long_ok (n_ : Int) (r : (List UInt8)) (h : hansomref18_Long n_ = some r) : Runs L F24.body ⟨tmOf [.d (.int .u32 n_)] 0, updW (fun _ => none) []⟩ (hansomref18_Long_Q n_ r) := by
  unfold hansomref18_Long at h
  refine Runs.seq ?_
  refine Runs.ops ?_
  refine RunAt.chunk 1 [⟨.d (.str ([] : List UInt8)), []⟩] (by kernel_rfl) ?_
  refine RunAt.done (by kernel_rfl) ?_
  refine kS_nrm ?_
  refine Runs.seq ?_
  refine Runs.ops ?_
  refine RunAt.chunk 3 [⟨.d (.int .u32 n_), []⟩, ⟨.d (.int .u64 (IntKind.wrap .u64 n_)), []⟩, ⟨.d (.int .u64 (IntKind.wrap .u64 n_)), []⟩] (by kernel_rfl) ?_
  refine RunAt.done (by kernel_rfl) ?_
  refine kS_nrm ?_
  refine Runs.seq ?_
  refine Runs.seq ?_
  refine Runs.ops ?_
  refine RunAt.chunk 2 [⟨.d (.int .u32 n_), []⟩, ⟨.d (.bool (decide (n_ ≤ 128))), []⟩] (by kernel_rfl) ?_
  refine RunAt.done (by kernel_rfl) ?_
  refine kS_nrm ?_
  cases hb_1 : ((decide (n_ ≤ 128)) : Bool) with
  | true =>
    replace h := ite_t hb_1 h
    refine Runs.cond_t (by kernel_rfl) ?_
    refine Runs.seq ?_
    refine Runs.ops ?_
    refine RunAt.chunk 1 [⟨.d (.int .u64 (IntKind.wrap .u64 n_)), []⟩] (by kernel_rfl) ?_
    obtain ⟨r_1, hr_1, h⟩ := bind_s h
    have hc_1 := hansomref18_Bytes_L (IntKind.wrap .u64 n_) 1 r_1 hr_1
    refine RunAt.cut (some 9) (.callf 21) [] none [.d (.int .u64 (IntKind.wrap .u64 n_)), .d (.int .i64 1)] (.d (.str r_1)) [] (by kernel_rfl) (by kernel_rfl) (by kernel_rfl) (cut_call (call_of (ws := []) (us := []) (by kernel_rfl) (by kernel_rfl) hc_1 (by kernel_rfl) (by kernel_rfl))) ?_
    refine RunAt.chunk 1 [⟨.d (.str r_1), []⟩] (by kernel_rfl) ?_
    refine RunAt.done (by kernel_rfl) ?_
    refine kS_nrm ?_
    refine Runs.ret ?_
    refine kS_ret ?_
    obtain rfl := Option.some.inj h
    exact ⟨Out.ret_ne, (by kernel_rfl)⟩
  | false =>
    replace h := ite_f hb_1 h
    refine Runs.cond_f (by kernel_rfl) ?_
    refine Runs.skip ?_
    refine kS_nrm ?_
    refine Runs.seq ?_
    refine Runs.seq ?_
    refine Runs.ops ?_
    refine RunAt.chunk 2 [⟨.d (.int .u32 n_), []⟩, ⟨.d (.bool (decide (n_ < 65536))), []⟩] (by kernel_rfl) ?_
    refine RunAt.done (by kernel_rfl) ?_
    refine kS_nrm ?_
    cases hb_2 : ((decide (n_ < 65536)) : Bool) with
    | true =>
      replace h := ite_t hb_2 h
      refine Runs.cond_t (by kernel_rfl) ?_
      refine Runs.seq ?_
      refine Runs.ops ?_
      refine RunAt.chunk 1 [⟨.d (.int .u64 (IntKind.wrap .u64 n_)), []⟩] (by kernel_rfl) ?_
      obtain ⟨r_2, hr_2, h⟩ := bind_s h
      have hc_2 := hansomref18_Bytes_L (IntKind.wrap .u64 n_) 2 r_2 hr_2
      refine RunAt.cut (some 13) (.callf 21) [] none [.d (.int .u64 (IntKind.wrap .u64 n_)), .d (.int .i64 2)] (.d (.str r_2)) [] (by kernel_rfl) (by kernel_rfl) (by kernel_rfl) (cut_call (call_of (ws := []) (us := []) (by kernel_rfl) (by kernel_rfl) hc_2 (by kernel_rfl) (by kernel_rfl))) ?_
      obtain ⟨z_1, hz_1, h⟩ := bind_s h
      refine RunAt.cut (some 14) (.bin .add) [] none [.d (.str ([129] : List UInt8)), .d (.str r_2)] (.d (.str z_1)) [] (by kernel_rfl) (by kernel_rfl) (by kernel_rfl) (cut_cat hz_1) ?_
      refine RunAt.chunk 1 [⟨.d (.str z_1), []⟩] (by kernel_rfl) ?_
      refine RunAt.done (by kernel_rfl) ?_
      refine kS_nrm ?_
      refine Runs.ret ?_
      refine kS_ret ?_
      obtain rfl := Option.some.inj h
      exact ⟨Out.ret_ne, (by kernel_rfl)⟩
    | false =>
      replace h := ite_f hb_2 h
      refine Runs.cond_f (by kernel_rfl) ?_
      refine Runs.skip ?_
      refine kS_nrm ?_
      refine Runs.seq ?_
      refine Runs.seq ?_
      refine Runs.ops ?_
      refine RunAt.chunk 2 [⟨.d (.int .u32 n_), []⟩, ⟨.d (.bool (decide (n_ < 16777216))), []⟩] (by kernel_rfl) ?_
      refine RunAt.done (by kernel_rfl) ?_
      refine kS_nrm ?_
      cases hb_3 : ((decide (n_ < 16777216)) : Bool) with
      | true =>
        replace h := ite_t hb_3 h
        refine Runs.cond_t (by kernel_rfl) ?_
        refine Runs.seq ?_
        refine Runs.ops ?_
        refine RunAt.chunk 1 [⟨.d (.int .u64 (IntKind.wrap .u64 n_)), []⟩] (by kernel_rfl) ?_
        obtain ⟨r_3, hr_3, h⟩ := bind_s h
        have hc_3 := hansomref18_Bytes_L (IntKind.wrap .u64 n_) 3 r_3 hr_3
        refine RunAt.cut (some 18) (.callf 21) [] none [.d (.int .u64 (IntKind.wrap .u64 n_)), .d (.int .i64 3)] (.d (.str r_3)) [] (by kernel_rfl) (by kernel_rfl) (by kernel_rfl) (cut_call (call_of (ws := []) (us := []) (by kernel_rfl) (by kernel_rfl) hc_3 (by kernel_rfl) (by kernel_rfl))) ?_
        obtain ⟨z_2, hz_2, h⟩ := bind_s h
        refine RunAt.cut (some 19) (.bin .add) [] none [.d (.str ([132] : List UInt8)), .d (.str r_3)] (.d (.str z_2)) [] (by kernel_rfl) (by kernel_rfl) (by kernel_rfl) (cut_cat hz_2) ?_
        refine RunAt.chunk 1 [⟨.d (.str z_2), []⟩] (by kernel_rfl) ?_
        refine RunAt.done (by kernel_rfl) ?_
        refine kS_nrm ?_
        refine Runs.ret ?_
        refine kS_ret ?_
        obtain rfl := Option.some.inj h
        exact ⟨Out.ret_ne, (by kernel_rfl)⟩
      | false =>
        replace h := ite_f hb_3 h
        refine Runs.cond_f (by kernel_rfl) ?_
        refine Runs.skip ?_
        refine kS_nrm ?_
        refine Runs.seq ?_
        refine Runs.ops ?_
        refine RunAt.chunk 1 [⟨.d (.int .u64 (IntKind.wrap .u64 n_)), []⟩] (by kernel_rfl) ?_
        obtain ⟨r_4, hr_4, h⟩ := bind_s h
        have hc_4 := hansomref18_Bytes_L (IntKind.wrap .u64 n_) 4 r_4 hr_4
        refine RunAt.cut (some 21) (.callf 21) [] none [.d (.int .u64 (IntKind.wrap .u64 n_)), .d (.int .i64 4)] (.d (.str r_4)) [] (by kernel_rfl) (by kernel_rfl) (by kernel_rfl) (cut_call (call_of (ws := []) (us := []) (by kernel_rfl) (by kernel_rfl) hc_4 (by kernel_rfl) (by kernel_rfl))) ?_
        obtain ⟨z_3, hz_3, h⟩ := bind_s h
        refine RunAt.cut (some 22) (.bin .add) [] none [.d (.str ([136] : List UInt8)), .d (.str r_4)] (.d (.str z_3)) [] (by kernel_rfl) (by kernel_rfl) (by kernel_rfl) (cut_cat hz_3) ?_
        refine RunAt.chunk 1 [⟨.d (.str z_3), []⟩] (by kernel_rfl) ?_
        refine RunAt.done (by kernel_rfl) ?_
        refine kS_nrm ?_
        refine Runs.ret ?_
        obtain rfl := Option.some.inj h
        exact ⟨Out.ret_ne, (by kernel_rfl)⟩
theorem hansomref18_Long_L (n_ : Int) (r : (List UInt8)) (h : hansomref18_Long n_ = some r) : L 24 [.d (.int .u32 n_)] = some (.d (.str r), [.d (.int .u32 n_)]) := by
  obtain ⟨p, ⟨hne, hf⟩, hr⟩ := hansomref18_Long_ok n_ r h
  obtain ⟨k, hk⟩ := run_of (F := F24) (args := [.d (.int .u32 n_)]) (ap := [.d (.int .u32 n_)]) (bx0 := updW (fun _ => none) []) rfl rfl (by kernel_rfl) ⟨p, ⟨hne, hf⟩, hr⟩
  exact lim_run (k := k) rfl hk
def hansomlaw19_IndexPuts_Q (n_ : Int) (s_ : (List UInt8)) (w_ : Int) (r : Bool) (p : Out × St) : Prop := (∀ i, p.1 ≠ .exit i) ∧ finF F3 [.d (.int .i64 n_), .d (.str s_), .d (.int .u32 w_)] p.2 = some (.d (.bool r), [.d (.int .i64 n_), .d (.str s_), .d (.int .u32 w_)])
theorem hansomlaw19_IndexPuts_ok (n_ : Int) (s_ : (List UInt8)) (w_ : Int) (r : Bool) (h : hansomlaw19_IndexPuts n_ s_ w_ = some r) : Runs L F3.body ⟨tmOf [.d (.int .i64 n_), .d (.str s_), .d (.int .u32 w_)] 0, updW (fun _ => none) []⟩ (hansomlaw19_IndexPuts_Q n_ s_ w_ r) := by
  unfold hansomlaw19_IndexPuts at h
  refine Runs.seq ?_
  refine Runs.ops ?_
  refine RunAt.chunk 1 [⟨.d (.bool false), []⟩] (by kernel_rfl) ?_
  refine RunAt.done (by kernel_rfl) ?_
  refine kS_nrm ?_
  refine Runs.seq ?_
  refine Runs.ops ?_
  refine RunAt.chunk 2 [⟨.d (.str s_), []⟩, ⟨.d (.str s_), []⟩] (by kernel_rfl) ?_
  refine RunAt.cut (some 10) .lenS [] none [.d (.str s_)] (.d (.int .i64 (s_.length : Int))) [] (by kernel_rfl) (by kernel_rfl) (by kernel_rfl) (cut_lenS _) ?_
  refine RunAt.chunk 1 [⟨.d (.int .i64 (mnI (s_.length : Int) 300)), []⟩] (by kernel_rfl) ?_
  obtain ⟨z_1, hz_1, h⟩ := bind_s h
  refine RunAt.cut (some 12) (.substr false true) [] none [.d (.str s_), .d (.int .i64 (mnI (s_.length : Int) 300))] (.d (.str z_1)) [] (by kernel_rfl) (by kernel_rfl) (by kernel_rfl) (cut_strFT hz_1) ?_
  refine RunAt.chunk 1 [⟨.d (.str z_1), []⟩] (by kernel_rfl) ?_
  refine RunAt.done (by kernel_rfl) ?_
  refine kS_nrm ?_
  refine Runs.seq ?_
  refine Runs.ops ?_
  obtain ⟨r_1, hr_1, h⟩ := bind_s h
  have hc_1 := hansomlaw19_awake_L r_1 hr_1
  refine RunAt.cut (some 13) (.callf 15) [] none [] (.d (.bool r_1)) [] (by kernel_rfl) (by kernel_rfl) (by kernel_rfl) (cut_call (call_of (ws := []) (us := []) (by kernel_rfl) (by kernel_rfl) hc_1 (by kernel_rfl) (by kernel_rfl))) ?_
  refine RunAt.chunk 1 [⟨.d (.bool r_1), []⟩] (by kernel_rfl) ?_
  cases hb_1 : (r_1 : Bool) with
  | true =>
    replace h := ite_t hb_1 h
    refine RunAt.chunk 1 [⟨.d (.int .i64 n_), []⟩] (by kernel_rfl) ?_
    obtain ⟨r_2, hr_2, h⟩ := bind_s h
    have hc_2 := index_Put_L n_ r_2 hr_2
    refine RunAt.cut (some 16) (.callf 16) [] none [.d (.int .i64 n_)] (.d (.sl (List.map (D.int .u8) r_2))) [] (by kernel_rfl) (by kernel_rfl) (by kernel_rfl) (cut_call (call_of (ws := []) (us := []) (by kernel_rfl) (by kernel_rfl) hc_2 (by kernel_rfl) (by kernel_rfl))) ?_
    refine RunAt.cut (some 17) .bytesStr [[19]] none [.d (.sl (List.map (D.int .u8) r_2))] (.d (.str (b2s r_2))) [] (by kernel_rfl) (by kernel_rfl) (by kernel_rfl) (cut_bs _) ?_
    refine RunAt.chunk 1 [⟨.d (.int .i64 n_), []⟩] (by kernel_rfl) ?_
    obtain ⟨r_3, hr_3, h⟩ := bind_s h
    have hc_3 := hansomref18_Index_L n_ r_3 hr_3
    refine RunAt.cut (some 19) (.callf 17) [] (some []) [.d (.int .i64 n_)] (.d (.str r_3)) [] (by kernel_rfl) (by kernel_rfl) (by kernel_rfl) (cut_call (call_of (ws := []) (us := []) (by kernel_rfl) (by kernel_rfl) hc_3 (by kernel_rfl) (by kernel_rfl))) ?_
    refine RunAt.chunk 3 [⟨.d (.bool ((b2s r_2) == r_3)), []⟩, ⟨.d (.bool ((b2s r_2) == r_3)), []⟩, ⟨.d (.bool ((b2s r_2) == r_3)), []⟩] (by kernel_rfl) ?_
    cases hb_2 : (((b2s r_2) == r_3) : Bool) with
    | true =>
      replace h := ite_t hb_2 h
      refine RunAt.chunk 1 [⟨.d (.str z_1), []⟩] (by kernel_rfl) ?_
      obtain ⟨r_4, hr_4, h⟩ := bind_s h
      have hc_4 := index_Name_L z_1 r_4 hr_4
      refine RunAt.cut (some 24) (.callf 18) [] none [.d (.str z_1)] (.d (.sl (List.map (D.int .u8) r_4))) [] (by kernel_rfl) (by kernel_rfl) (by kernel_rfl) (cut_call (call_of (ws := []) (us := []) (by kernel_rfl) (by kernel_rfl) hc_4 (by kernel_rfl) (by kernel_rfl))) ?_
      refine RunAt.cut (some 25) .bytesStr [[27]] none [.d (.sl (List.map (D.int .u8) r_4))] (.d (.str (b2s r_4))) [] (by kernel_rfl) (by kernel_rfl) (by kernel_rfl) (cut_bs _) ?_
      refine RunAt.chunk 1 [⟨.d (.str z_1), []⟩] (by kernel_rfl) ?_
      obtain ⟨r_5, hr_5, h⟩ := bind_s h
      have hc_5 := hansomref18_Name_L z_1 r_5 hr_5
      refine RunAt.cut (some 27) (.callf 19) [] (some []) [.d (.str z_1)] (.d (.str r_5)) [] (by kernel_rfl) (by kernel_rfl) (by kernel_rfl) (cut_call (call_of (ws := []) (us := []) (by kernel_rfl) (by kernel_rfl) hc_5 (by kernel_rfl) (by kernel_rfl))) ?_
      refine RunAt.chunk 3 [⟨.d (.bool ((b2s r_4) == r_5)), []⟩, ⟨.d (.bool ((b2s r_4) == r_5)), []⟩, ⟨.d (.bool ((b2s r_4) == r_5)), []⟩] (by kernel_rfl) ?_
      cases hb_3 : (((b2s r_4) == r_5) : Bool) with
      | true =>
        replace h := ite_t hb_3 h
        refine RunAt.chunk 2 [⟨.d (.int .u32 w_), []⟩, ⟨.d (.int .u16 (IntKind.wrap .u16 w_)), []⟩] (by kernel_rfl) ?_
        obtain ⟨r_6, hr_6, h⟩ := bind_s h
        have hc_6 := index_Two_L (IntKind.wrap .u16 w_) r_6 hr_6
        refine RunAt.cut (some 33) (.callf 20) [] none [.d (.int .u16 (IntKind.wrap .u16 w_))] (.ref [33] 0 0 (List.map (D.int .u8) r_6).length 1) [([33], some (.arr (List.map (D.int .u8) r_6) 0 false))] (by kernel_rfl) (by kernel_rfl) (by kernel_rfl) (cut_call (call_of (ws := []) (us := []) (by kernel_rfl) (gives_cons (ws := []) (give_same (by kernel_rfl)) gives_nil) hc_6 (by kernel_rfl) (by kernel_rfl))) ?_
        refine RunAt.cut (some 34) .bytesStr [[38]] none [.ref [33] 0 0 (List.map (D.int .u8) r_6).length 1] (.d (.str (b2s r_6))) [] (by kernel_rfl) (by kernel_rfl) (by kernel_rfl) (cut_bsR (l := r_6) (fz := false) (by kernel_rfl) (by kernel_rfl) rfl) ?_
        refine RunAt.chunk 3 [⟨.d (.int .u32 w_), []⟩, ⟨.d (.int .u64 (IntKind.wrap .u64 w_)), []⟩, ⟨.d (.int .u64 (Int.tmod (IntKind.wrap .u64 w_) 65536)), []⟩] (by kernel_rfl) ?_
        obtain ⟨r_7, hr_7, h⟩ := bind_s h
        have hc_7 := hansomref18_Bytes_L (Int.tmod (IntKind.wrap .u64 w_) 65536) 2 r_7 hr_7
        refine RunAt.cut (some 38) (.callf 21) [] (some []) [.d (.int .u64 (Int.tmod (IntKind.wrap .u64 w_) 65536)), .d (.int .i64 2)] (.d (.str r_7)) [] (by kernel_rfl) (by kernel_rfl) (by kernel_rfl) (cut_call (call_of (ws := []) (us := []) (by kernel_rfl) (by kernel_rfl) hc_7 (by kernel_rfl) (by kernel_rfl))) ?_
        refine RunAt.chunk 3 [⟨.d (.bool ((b2s r_6) == r_7)), []⟩, ⟨.d (.bool ((b2s r_6) == r_7)), []⟩, ⟨.d (.bool ((b2s r_6) == r_7)), []⟩] (by kernel_rfl) ?_
        cases hb_4 : (((b2s r_6) == r_7) : Bool) with
        | true =>
          replace h := ite_t hb_4 h
          refine RunAt.chunk 1 [⟨.d (.int .u32 w_), []⟩] (by kernel_rfl) ?_
          obtain ⟨r_8, hr_8, h⟩ := bind_s h
          have hc_8 := index_Four_L w_ r_8 hr_8
          refine RunAt.cut (some 43) (.callf 22) [] none [.d (.int .u32 w_)] (.d (.sl (List.map (D.int .u8) r_8))) [] (by kernel_rfl) (by kernel_rfl) (by kernel_rfl) (cut_call (call_of (ws := []) (us := []) (by kernel_rfl) (by kernel_rfl) hc_8 (by kernel_rfl) (by kernel_rfl))) ?_
          refine RunAt.cut (some 44) .bytesStr [[47]] none [.d (.sl (List.map (D.int .u8) r_8))] (.d (.str (b2s r_8))) [] (by kernel_rfl) (by kernel_rfl) (by kernel_rfl) (cut_bs _) ?_
          refine RunAt.chunk 2 [⟨.d (.int .u32 w_), []⟩, ⟨.d (.int .u64 (IntKind.wrap .u64 w_)), []⟩] (by kernel_rfl) ?_
          obtain ⟨r_9, hr_9, h⟩ := bind_s h
          have hc_9 := hansomref18_Bytes_L (IntKind.wrap .u64 w_) 4 r_9 hr_9
          refine RunAt.cut (some 47) (.callf 21) [] (some []) [.d (.int .u64 (IntKind.wrap .u64 w_)), .d (.int .i64 4)] (.d (.str r_9)) [] (by kernel_rfl) (by kernel_rfl) (by kernel_rfl) (cut_call (call_of (ws := []) (us := []) (by kernel_rfl) (by kernel_rfl) hc_9 (by kernel_rfl) (by kernel_rfl))) ?_
          refine RunAt.chunk 3 [⟨.d (.bool ((b2s r_8) == r_9)), []⟩, ⟨.d (.bool ((b2s r_8) == r_9)), []⟩, ⟨.d (.bool ((b2s r_8) == r_9)), []⟩] (by kernel_rfl) ?_
          cases hb_5 : (((b2s r_8) == r_9) : Bool) with
          | true =>
            replace h := ite_t hb_5 h
            refine RunAt.chunk 1 [⟨.d (.int .u32 w_), []⟩] (by kernel_rfl) ?_
            obtain ⟨r_10, hr_10, h⟩ := bind_s h
            have hc_10 := index_Long_L w_ r_10 hr_10
            refine RunAt.cut (some 52) (.callf 23) [] none [.d (.int .u32 w_)] (.d (.sl (List.map (D.int .u8) r_10))) [] (by kernel_rfl) (by kernel_rfl) (by kernel_rfl) (cut_call (call_of (ws := []) (us := []) (by kernel_rfl) (by kernel_rfl) hc_10 (by kernel_rfl) (by kernel_rfl))) ?_
            refine RunAt.cut (some 53) .bytesStr [[55]] none [.d (.sl (List.map (D.int .u8) r_10))] (.d (.str (b2s r_10))) [] (by kernel_rfl) (by kernel_rfl) (by kernel_rfl) (cut_bs _) ?_
            refine RunAt.chunk 1 [⟨.d (.int .u32 w_), []⟩] (by kernel_rfl) ?_
            obtain ⟨r_11, hr_11, h⟩ := bind_s h
            have hc_11 := hansomref18_Long_L w_ r_11 hr_11
            refine RunAt.cut (some 55) (.callf 24) [] (some []) [.d (.int .u32 w_)] (.d (.str r_11)) [] (by kernel_rfl) (by kernel_rfl) (by kernel_rfl) (cut_call (call_of (ws := []) (us := []) (by kernel_rfl) (by kernel_rfl) hc_11 (by kernel_rfl) (by kernel_rfl))) ?_
            refine RunAt.chunk 3 [⟨.d (.bool ((b2s r_10) == r_11)), []⟩, ⟨.d (.bool ((b2s r_10) == r_11)), []⟩, ⟨.d (.bool ((b2s r_10) == r_11)), []⟩] (by kernel_rfl) ?_
            refine RunAt.done (by kernel_rfl) ?_
            refine kS_nrm ?_
            refine Runs.ret ?_
            obtain rfl := Option.some.inj h
            exact ⟨Out.ret_ne, (by kernel_rfl)⟩
          | false =>
            replace h := ite_f hb_5 h
            refine RunAt.chunk 8 [⟨.tup [], []⟩, ⟨.tup [], []⟩, ⟨.tup [], []⟩, ⟨.tup [], []⟩, ⟨.tup [], []⟩, ⟨.tup [], []⟩, ⟨.d (.bool false), []⟩, ⟨.d (.bool false), []⟩] (by kernel_rfl) ?_
            refine RunAt.done (by kernel_rfl) ?_
            refine kS_nrm ?_
            refine Runs.ret ?_
            obtain rfl := Option.some.inj h
            exact ⟨Out.ret_ne, (by kernel_rfl)⟩
        | false =>
          replace h := ite_f hb_4 h
          refine RunAt.chunk 17 [⟨.tup [], []⟩, ⟨.tup [], []⟩, ⟨.tup [], []⟩, ⟨.tup [], []⟩, ⟨.tup [], []⟩, ⟨.tup [], []⟩, ⟨.tup [], []⟩, ⟨.d (.bool false), []⟩, ⟨.d (.bool false), []⟩, ⟨.tup [], []⟩, ⟨.tup [], []⟩, ⟨.tup [], []⟩, ⟨.tup [], []⟩, ⟨.tup [], []⟩, ⟨.tup [], []⟩, ⟨.d (.bool false), []⟩, ⟨.d (.bool false), []⟩] (by kernel_rfl) ?_
          refine RunAt.done (by kernel_rfl) ?_
          refine kS_nrm ?_
          refine Runs.ret ?_
          obtain rfl := Option.some.inj h
          exact ⟨Out.ret_ne, (by kernel_rfl)⟩
      | false =>
        replace h := ite_f hb_3 h
        refine RunAt.chunk 28 [⟨.tup [], []⟩, ⟨.tup [], []⟩, ⟨.tup [], []⟩, ⟨.tup [], []⟩, ⟨.tup [], []⟩, ⟨.tup [], []⟩, ⟨.tup [], []⟩, ⟨.tup [], []⟩, ⟨.tup [], []⟩, ⟨.d (.bool false), []⟩, ⟨.d (.bool false), []⟩, ⟨.tup [], []⟩, ⟨.tup [], []⟩, ⟨.tup [], []⟩, ⟨.tup [], []⟩, ⟨.tup [], []⟩, ⟨.tup [], []⟩, ⟨.tup [], []⟩, ⟨.d (.bool false), []⟩, ⟨.d (.bool false), []⟩, ⟨.tup [], []⟩, ⟨.tup [], []⟩, ⟨.tup [], []⟩, ⟨.tup [], []⟩, ⟨.tup [], []⟩, ⟨.tup [], []⟩, ⟨.d (.bool false), []⟩, ⟨.d (.bool false), []⟩] (by kernel_rfl) ?_
        refine RunAt.done (by kernel_rfl) ?_
        refine kS_nrm ?_
        refine Runs.ret ?_
        obtain rfl := Option.some.inj h
        exact ⟨Out.ret_ne, (by kernel_rfl)⟩
    | false =>
      replace h := ite_f hb_2 h
      refine RunAt.chunk 36 [⟨.tup [], []⟩, ⟨.tup [], []⟩, ⟨.tup [], []⟩, ⟨.tup [], []⟩, ⟨.tup [], []⟩, ⟨.tup [], []⟩, ⟨.d (.bool false), []⟩, ⟨.d (.bool false), []⟩, ⟨.tup [], []⟩, ⟨.tup [], []⟩, ⟨.tup [], []⟩, ⟨.tup [], []⟩, ⟨.tup [], []⟩, ⟨.tup [], []⟩, ⟨.tup [], []⟩, ⟨.tup [], []⟩, ⟨.tup [], []⟩, ⟨.d (.bool false), []⟩, ⟨.d (.bool false), []⟩, ⟨.tup [], []⟩, ⟨.tup [], []⟩, ⟨.tup [], []⟩, ⟨.tup [], []⟩, ⟨.tup [], []⟩, ⟨.tup [], []⟩, ⟨.tup [], []⟩, ⟨.d (.bool false), []⟩, ⟨.d (.bool false), []⟩, ⟨.tup [], []⟩, ⟨.tup [], []⟩, ⟨.tup [], []⟩, ⟨.tup [], []⟩, ⟨.tup [], []⟩, ⟨.tup [], []⟩, ⟨.d (.bool false), []⟩, ⟨.d (.bool false), []⟩] (by kernel_rfl) ?_
      refine RunAt.done (by kernel_rfl) ?_
      refine kS_nrm ?_
      refine Runs.ret ?_
      obtain rfl := Option.some.inj h
      exact ⟨Out.ret_ne, (by kernel_rfl)⟩
  | false =>
    replace h := ite_f hb_1 h
    refine RunAt.chunk 44 [⟨.tup [], []⟩, ⟨.tup [], []⟩, ⟨.tup [], []⟩, ⟨.tup [], []⟩, ⟨.tup [], []⟩, ⟨.tup [], []⟩, ⟨.d (.bool false), []⟩, ⟨.d (.bool false), []⟩, ⟨.tup [], []⟩, ⟨.tup [], []⟩, ⟨.tup [], []⟩, ⟨.tup [], []⟩, ⟨.tup [], []⟩, ⟨.tup [], []⟩, ⟨.d (.bool false), []⟩, ⟨.d (.bool false), []⟩, ⟨.tup [], []⟩, ⟨.tup [], []⟩, ⟨.tup [], []⟩, ⟨.tup [], []⟩, ⟨.tup [], []⟩, ⟨.tup [], []⟩, ⟨.tup [], []⟩, ⟨.tup [], []⟩, ⟨.tup [], []⟩, ⟨.d (.bool false), []⟩, ⟨.d (.bool false), []⟩, ⟨.tup [], []⟩, ⟨.tup [], []⟩, ⟨.tup [], []⟩, ⟨.tup [], []⟩, ⟨.tup [], []⟩, ⟨.tup [], []⟩, ⟨.tup [], []⟩, ⟨.d (.bool false), []⟩, ⟨.d (.bool false), []⟩, ⟨.tup [], []⟩, ⟨.tup [], []⟩, ⟨.tup [], []⟩, ⟨.tup [], []⟩, ⟨.tup [], []⟩, ⟨.tup [], []⟩, ⟨.d (.bool false), []⟩, ⟨.d (.bool false), []⟩] (by kernel_rfl) ?_
    refine RunAt.done (by kernel_rfl) ?_
    refine kS_nrm ?_
    refine Runs.ret ?_
    obtain rfl := Option.some.inj h
    exact ⟨Out.ret_ne, (by kernel_rfl)⟩
theorem hansomlaw19_IndexPuts_L (n_ : Int) (s_ : (List UInt8)) (w_ : Int) (r : Bool) (h : hansomlaw19_IndexPuts n_ s_ w_ = some r) : L 3 [.d (.int .i64 n_), .d (.str s_), .d (.int .u32 w_)] = some (.d (.bool r), [.d (.int .i64 n_), .d (.str s_), .d (.int .u32 w_)]) := by
  obtain ⟨p, ⟨hne, hf⟩, hr⟩ := hansomlaw19_IndexPuts_ok n_ s_ w_ r h
  obtain ⟨k, hk⟩ := run_of (F := F3) (args := [.d (.int .i64 n_), .d (.str s_), .d (.int .u32 w_)]) (ap := [.d (.int .i64 n_), .d (.str s_), .d (.int .u32 w_)]) (bx0 := updW (fun _ => none) []) rfl rfl (by kernel_rfl) ⟨p, ⟨hne, hf⟩, hr⟩
  exact lim_run (k := k) rfl hk
end Go.Es.Ixp
