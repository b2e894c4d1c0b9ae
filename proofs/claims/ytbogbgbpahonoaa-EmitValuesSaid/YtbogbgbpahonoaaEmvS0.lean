/- The interpreter answers as plain Lean does: part 1. No condition. -/
import Derived.Test.YtbogbgbpahonoaaEmvF
import Derived.Test.YtbogbgbpahonoaaEmvP
import Derived.KernelRfl
set_option linter.unusedVariables false
set_option linter.unusedSimpArgs false
set_option maxRecDepth 100000
set_option maxHeartbeats 4000000
namespace Go.Es.Emv
def value_Plain_Q (v_ : api_Value) (r : Bool) (p : Out × St) : Prop := (∀ i, p.1 ≠ .exit i) ∧ finF F55 [.d (api_Value.d v_)] p.2 = some (.d (.bool r), [.d (api_Value.d v_)])
theorem value_Plain_ok (v_ : api_Value) (r : Bool) (h : value_Plain v_ = some r) : Runs L F55.body ⟨tmOf [.d (api_Value.d v_)] 0, updW (fun _ => none) []⟩ (value_Plain_Q v_ r) := by
  unfold value_Plain at h
  refine Runs.seq ?_
  refine Runs.ops ?_
  refine RunAt.chunk 2 [⟨.ptr [1] 0 0, [([1], some (.cells [.d (.int .i64 v_.N), .d (.int .i64 v_.From), .d (.int .i64 v_.Which), .d (.int .i64 v_.Type_), .d (.int .i64 v_.Wants), .d (.bool v_.Known)] 0))]⟩, ⟨.d (.bool false), []⟩] (by kernel_rfl) ?_
  refine RunAt.done (by kernel_rfl) ?_
  refine kS_nrm ?_
  refine Runs.seq ?_
  refine Runs.ops ?_
  refine RunAt.chunk 4 [⟨.ptr [1] 0 1, []⟩, ⟨.d (.int .i64 v_.From), []⟩, ⟨.d (.bool (v_.From == 0)), []⟩, ⟨.d (.bool (v_.From == 0)), []⟩] (by kernel_rfl) ?_
  cases hb_1 : ((v_.From == 0) : Bool) with
  | true =>
    replace h := ite_t hb_1 h
    refine RunAt.chunk 5 [⟨.ptr [1] 0 4, []⟩, ⟨.d (.int .i64 v_.Wants), []⟩, ⟨.d (.bool (v_.Wants == 0)), []⟩, ⟨.d (.bool (v_.Wants == 0)), []⟩, ⟨.d (.bool (v_.Wants == 0)), []⟩] (by kernel_rfl) ?_
    refine RunAt.done (by kernel_rfl) ?_
    refine kS_nrm ?_
    refine Runs.ret ?_
    obtain rfl := Option.some.inj h
    exact ⟨Out.ret_ne, (by kernel_rfl)⟩
  | false =>
    replace h := ite_f hb_1 h
    refine RunAt.chunk 5 [⟨.tup [], []⟩, ⟨.tup [], []⟩, ⟨.tup [], []⟩, ⟨.d (.bool false), []⟩, ⟨.d (.bool false), []⟩] (by kernel_rfl) ?_
    refine RunAt.done (by kernel_rfl) ?_
    refine kS_nrm ?_
    refine Runs.ret ?_
    obtain rfl := Option.some.inj h
    exact ⟨Out.ret_ne, (by kernel_rfl)⟩
theorem value_Plain_L (v_ : api_Value) (r : Bool) (h : value_Plain v_ = some r) : L 55 [.d (api_Value.d v_)] = some (.d (.bool r), [.d (api_Value.d v_)]) := by
  obtain ⟨p, ⟨hne, hf⟩, hr⟩ := value_Plain_ok v_ r h
  obtain ⟨k, hk⟩ := run_of (F := F55) (args := [.d (api_Value.d v_)]) (ap := [.d (api_Value.d v_)]) (bx0 := updW (fun _ => none) []) rfl rfl (by kernel_rfl) ⟨p, ⟨hne, hf⟩, hr⟩
  exact lim_run (k := k) rfl hk
def bits_Low_Q (w_ : Int) (r : Int) (p : Out × St) : Prop := (∀ i, p.1 ≠ .exit i) ∧ finF F56 [.d (.int .u16 w_)] p.2 = some (.d (.int .u8 r), [.d (.int .u16 w_)])
theorem bits_Low_ok (w_ : Int) (r : Int) (h : bits_Low w_ = some r) : Runs L F56.body ⟨tmOf [.d (.int .u16 w_)] 0, updW (fun _ => none) []⟩ (bits_Low_Q w_ r) := by
  unfold bits_Low at h
  refine Runs.seq ?_
  refine Runs.ops ?_
  refine RunAt.chunk 1 [⟨.d (.int .u8 0), []⟩] (by kernel_rfl) ?_
  refine RunAt.done (by kernel_rfl) ?_
  refine kS_nrm ?_
  refine Runs.seq ?_
  refine Runs.ops ?_
  refine RunAt.chunk 3 [⟨.d (.int .u16 w_), []⟩, ⟨.d (.int .u8 (IntKind.wrap .u8 w_)), []⟩, ⟨.d (.int .u8 (IntKind.wrap .u8 w_)), []⟩] (by kernel_rfl) ?_
  refine RunAt.done (by kernel_rfl) ?_
  refine kS_nrm ?_
  refine Runs.ret ?_
  obtain rfl := Option.some.inj h
  exact ⟨Out.ret_ne, (by kernel_rfl)⟩
theorem bits_Low_L (w_ : Int) (r : Int) (h : bits_Low w_ = some r) : L 56 [.d (.int .u16 w_)] = some (.d (.int .u8 r), [.d (.int .u16 w_)]) := by
  obtain ⟨p, ⟨hne, hf⟩, hr⟩ := bits_Low_ok w_ r h
  obtain ⟨k, hk⟩ := run_of (F := F56) (args := [.d (.int .u16 w_)]) (ap := [.d (.int .u16 w_)]) (bx0 := updW (fun _ => none) []) rfl rfl (by kernel_rfl) ⟨p, ⟨hne, hf⟩, hr⟩
  exact lim_run (k := k) rfl hk
def bits_High_Q (w_ : Int) (r : Int) (p : Out × St) : Prop := (∀ i, p.1 ≠ .exit i) ∧ finF F57 [.d (.int .u16 w_)] p.2 = some (.d (.int .u8 r), [.d (.int .u16 w_)])
theorem bits_High_ok (w_ : Int) (r : Int) (h : bits_High w_ = some r) : Runs L F57.body ⟨tmOf [.d (.int .u16 w_)] 0, updW (fun _ => none) []⟩ (bits_High_Q w_ r) := by
  unfold bits_High at h
  refine Runs.seq ?_
  refine Runs.ops ?_
  refine RunAt.chunk 1 [⟨.d (.int .u8 0), []⟩] (by kernel_rfl) ?_
  refine RunAt.done (by kernel_rfl) ?_
  refine kS_nrm ?_
  refine Runs.seq ?_
  refine Runs.ops ?_
  refine RunAt.chunk 4 [⟨.d (.int .u16 w_), []⟩, ⟨.d (.int .u16 (shrI .u16 w_ 8)), []⟩, ⟨.d (.int .u8 (IntKind.wrap .u8 (shrI .u16 w_ 8))), []⟩, ⟨.d (.int .u8 (IntKind.wrap .u8 (shrI .u16 w_ 8))), []⟩] (by kernel_rfl) ?_
  refine RunAt.done (by kernel_rfl) ?_
  refine kS_nrm ?_
  refine Runs.ret ?_
  obtain rfl := Option.some.inj h
  exact ⟨Out.ret_ne, (by kernel_rfl)⟩
theorem bits_High_L (w_ : Int) (r : Int) (h : bits_High w_ = some r) : L 57 [.d (.int .u16 w_)] = some (.d (.int .u8 r), [.d (.int .u16 w_)]) := by
  obtain ⟨p, ⟨hne, hf⟩, hr⟩ := bits_High_ok w_ r h
  obtain ⟨k, hk⟩ := run_of (F := F57) (args := [.d (.int .u16 w_)]) (ap := [.d (.int .u16 w_)]) (bx0 := updW (fun _ => none) []) rfl rfl (by kernel_rfl) ⟨p, ⟨hne, hf⟩, hr⟩
  exact lim_run (k := k) rfl hk
def emit_By_Q (from_ : Int) (r : Int) (p : Out × St) : Prop := (∀ i, p.1 ≠ .exit i) ∧ finF F25 [.d (.int .i64 from_)] p.2 = some (.d (.int .i64 r), [.d (.int .i64 from_)])
theorem emit_By_ok (from_ : Int) (r : Int) (h : emit_By from_ = some r) : Runs L F25.body ⟨tmOf [.d (.int .i64 from_)] 0, updW (fun _ => none) []⟩ (emit_By_Q from_ r) := by
  unfold emit_By at h
  refine Runs.seq ?_
  refine Runs.ops ?_
  refine RunAt.chunk 1 [⟨.d (.int .i64 0), []⟩] (by kernel_rfl) ?_
  refine RunAt.done (by kernel_rfl) ?_
  refine kS_nrm ?_
  refine Runs.seq ?_
  refine Runs.seq ?_
  refine Runs.ops ?_
  refine RunAt.chunk 1 [⟨.d (.int .i64 from_), []⟩] (by kernel_rfl) ?_
  refine RunAt.done (by kernel_rfl) ?_
  refine kS_nrm ?_
  refine Runs.block ?_
  refine Runs.seq ?_
  refine Runs.ops ?_
  refine RunAt.chunk 2 [⟨.d (.bool (from_ == 2)), []⟩, ⟨.d (.bool (from_ == 2)), []⟩] (by kernel_rfl) ?_
  refine RunAt.done (by kernel_rfl) ?_
  refine kS_nrm ?_
  cases hb_1 : ((from_ == 2) : Bool) with
  | true =>
    replace h := ite_t hb_1 h
    refine Runs.cond_t (by kernel_rfl) ?_
    refine Runs.seq ?_
    refine Runs.ops ?_
    refine RunAt.chunk 1 [⟨.d (.int .i64 1), []⟩] (by kernel_rfl) ?_
    refine RunAt.done (by kernel_rfl) ?_
    refine kS_nrm ?_
    refine Runs.ret ?_
    refine kB_ret ?_
    refine kS_ret ?_
    obtain rfl := Option.some.inj h
    exact ⟨Out.ret_ne, (by kernel_rfl)⟩
  | false =>
    replace h := ite_f hb_1 h
    refine Runs.cond_f (by kernel_rfl) ?_
    refine Runs.seq ?_
    refine Runs.ops ?_
    refine RunAt.chunk 2 [⟨.d (.bool (from_ == 3)), []⟩, ⟨.d (.bool (from_ == 3)), []⟩] (by kernel_rfl) ?_
    refine RunAt.done (by kernel_rfl) ?_
    refine kS_nrm ?_
    cases hb_2 : ((from_ == 3) : Bool) with
    | true =>
      replace h := ite_t hb_2 h
      refine Runs.cond_t (by kernel_rfl) ?_
      refine Runs.seq ?_
      refine Runs.ops ?_
      refine RunAt.chunk 1 [⟨.d (.int .i64 2), []⟩] (by kernel_rfl) ?_
      refine RunAt.done (by kernel_rfl) ?_
      refine kS_nrm ?_
      refine Runs.ret ?_
      refine kB_ret ?_
      refine kS_ret ?_
      obtain rfl := Option.some.inj h
      exact ⟨Out.ret_ne, (by kernel_rfl)⟩
    | false =>
      replace h := ite_f hb_2 h
      refine Runs.cond_f (by kernel_rfl) ?_
      refine Runs.skip ?_
      refine kB_nrm ?_
      refine kS_nrm ?_
      refine Runs.seq ?_
      refine Runs.ops ?_
      refine RunAt.chunk 1 [⟨.d (.int .i64 0), []⟩] (by kernel_rfl) ?_
      refine RunAt.done (by kernel_rfl) ?_
      refine kS_nrm ?_
      refine Runs.ret ?_
      obtain rfl := Option.some.inj h
      exact ⟨Out.ret_ne, (by kernel_rfl)⟩
theorem emit_By_L (from_ : Int) (r : Int) (h : emit_By from_ = some r) : L 25 [.d (.int .i64 from_)] = some (.d (.int .i64 r), [.d (.int .i64 from_)]) := by
  obtain ⟨p, ⟨hne, hf⟩, hr⟩ := emit_By_ok from_ r h
  obtain ⟨k, hk⟩ := run_of (F := F25) (args := [.d (.int .i64 from_)]) (ap := [.d (.int .i64 from_)]) (bx0 := updW (fun _ => none) []) rfl rfl (by kernel_rfl) ⟨p, ⟨hne, hf⟩, hr⟩
  exact lim_run (k := k) rfl hk
def emit_Fix_Q (at_ : Int) (loc_ : Int) (v_ : api_Value) (from_ : Int) (which_ : Int) (r : Fixup) (p : Out × St) : Prop := (∀ i, p.1 ≠ .exit i) ∧ finF F24 [.d (.int .i64 at_), .d (.int .i64 loc_), .d (api_Value.d v_), .d (.int .i64 from_), .d (.int .i64 which_)] p.2 = some (.d (Fixup.d r), [.d (.int .i64 at_), .d (.int .i64 loc_), .d (api_Value.d v_), .d (.int .i64 from_), .d (.int .i64 which_)])
theorem emit_Fix_ok (at_ : Int) (loc_ : Int) (v_ : api_Value) (from_ : Int) (which_ : Int) (r : Fixup) (h : emit_Fix at_ loc_ v_ from_ which_ = some r) : Runs L F24.body ⟨tmOf [.d (.int .i64 at_), .d (.int .i64 loc_), .d (api_Value.d v_), .d (.int .i64 from_), .d (.int .i64 which_)] 0, updW (fun _ => none) []⟩ (emit_Fix_Q at_ loc_ v_ from_ which_ r) := by
  unfold emit_Fix at h
  refine Runs.seq ?_
  refine Runs.ops ?_
  refine RunAt.chunk 2 [⟨.ptr [7] 0 0, [([7], some (.cells [.d (.int .i64 v_.N), .d (.int .i64 v_.From), .d (.int .i64 v_.Which), .d (.int .i64 v_.Type_), .d (.int .i64 v_.Wants), .d (.bool v_.Known)] 0))]⟩, ⟨.ptr [10] 0 0, [([10], some (.cells [.d (.int .i64 0), .d (.int .i64 0), .d (.bool false), .d (.int .i64 0), .d (.int .i64 0), .d (.int .i64 0), .d (.int .i64 0), .d (.int .u16 0)] 0))]⟩] (by kernel_rfl) ?_
  refine RunAt.done (by kernel_rfl) ?_
  refine kS_nrm ?_
  refine Runs.seq ?_
  refine Runs.ops ?_
  refine RunAt.chunk 4 [⟨.d (.int .i64 at_), []⟩, ⟨.d (.int .i64 loc_), []⟩, ⟨.ptr [7] 0 1, []⟩, ⟨.d (.int .i64 v_.From), []⟩] (by kernel_rfl) ?_
  obtain ⟨r_1, hr_1, h⟩ := bind_s h
  have hc_1 := emit_By_L v_.From r_1 hr_1
  refine RunAt.cut (some 16) (.callf 25) [[11]] (some []) [.d (.int .i64 v_.From)] (.d (.int .i64 r_1)) [] (by kernel_rfl) (by kernel_rfl) (by kernel_rfl) (cut_call (call_of (ws := []) (us := []) (by kernel_rfl) (by kernel_rfl) hc_1 (by kernel_rfl) (by kernel_rfl))) ?_
  refine RunAt.chunk 6 [⟨.ptr [7] 0 2, []⟩, ⟨.d (.int .i64 v_.Which), []⟩, ⟨.ptr [7] 0 0, []⟩, ⟨.d (.int .i64 v_.N), []⟩, ⟨.d (.int .u16 (IntKind.wrap .u16 v_.N)), []⟩, ⟨.d (.int .i64 from_), []⟩] (by kernel_rfl) ?_
  obtain ⟨r_2, hr_2, h⟩ := bind_s h
  have hc_2 := emit_By_L from_ r_2 hr_2
  refine RunAt.cut (some 23) (.callf 25) [[11]] (some []) [.d (.int .i64 from_)] (.d (.int .i64 r_2)) [] (by kernel_rfl) (by kernel_rfl) (by kernel_rfl) (cut_call (call_of (ws := []) (us := []) (by kernel_rfl) (by kernel_rfl) hc_2 (by kernel_rfl) (by kernel_rfl))) ?_
  refine RunAt.chunk 4 [⟨.d (.int .i64 which_), []⟩, ⟨.d (.agg [.int .i64 at_, .int .i64 loc_, .bool false, .int .i64 r_2, .int .i64 which_, .int .i64 r_1, .int .i64 v_.Which, .int .u16 (IntKind.wrap .u16 v_.N)]), []⟩, ⟨.ptr [11] 0 0, [([11], some (.cells [.d (.int .i64 0), .d (.int .i64 0), .d (.bool false), .d (.int .i64 0), .d (.int .i64 0), .d (.int .i64 0), .d (.int .i64 0), .d (.int .u16 0)] 0))]⟩, ⟨.tup [], [([11], some (.cells [.d (.int .i64 at_), .d (.int .i64 loc_), .d (.bool false), .d (.int .i64 r_2), .d (.int .i64 which_), .d (.int .i64 r_1), .d (.int .i64 v_.Which), .d (.int .u16 (IntKind.wrap .u16 v_.N))] 0))]⟩] (by kernel_rfl) ?_
  refine RunAt.done (by kernel_rfl) ?_
  refine kS_nrm ?_
  refine Runs.seq ?_
  refine Runs.seq ?_
  refine Runs.ops ?_
  refine RunAt.chunk 2 [⟨.d (.int .i64 from_), []⟩, ⟨.d (.bool (from_ == 0)), []⟩] (by kernel_rfl) ?_
  refine RunAt.done (by kernel_rfl) ?_
  refine kS_nrm ?_
  cases hb_1 : ((from_ == 0) : Bool) with
  | true =>
    replace h := ite_t hb_1 h
    refine Runs.cond_t (by kernel_rfl) ?_
    refine Runs.ops ?_
    refine RunAt.chunk 4 [⟨.ptr [11] 0 3, []⟩, ⟨.tup [], [([11], some (.cells [.d (.int .i64 at_), .d (.int .i64 loc_), .d (.bool false), .d (.int .i64 5), .d (.int .i64 which_), .d (.int .i64 r_1), .d (.int .i64 v_.Which), .d (.int .u16 (IntKind.wrap .u16 v_.N))] 0))]⟩, ⟨.ptr [11] 0 4, []⟩, ⟨.tup [], [([11], some (.cells [.d (.int .i64 at_), .d (.int .i64 loc_), .d (.bool false), .d (.int .i64 5), .d (.int .i64 0), .d (.int .i64 r_1), .d (.int .i64 v_.Which), .d (.int .u16 (IntKind.wrap .u16 v_.N))] 0))]⟩] (by kernel_rfl) ?_
    refine RunAt.done (by kernel_rfl) ?_
    refine kS_nrm ?_
    refine Runs.seq ?_
    refine Runs.ops ?_
    refine RunAt.chunk 2 [⟨.d (.agg [.int .i64 at_, .int .i64 loc_, .bool false, .int .i64 5, .int .i64 0, .int .i64 r_1, .int .i64 v_.Which, .int .u16 (IntKind.wrap .u16 v_.N)]), []⟩, ⟨.tup [], [([10], some (.cells [.d (.int .i64 at_), .d (.int .i64 loc_), .d (.bool false), .d (.int .i64 5), .d (.int .i64 0), .d (.int .i64 r_1), .d (.int .i64 v_.Which), .d (.int .u16 (IntKind.wrap .u16 v_.N))] 0))]⟩] (by kernel_rfl) ?_
    refine RunAt.done (by kernel_rfl) ?_
    refine kS_nrm ?_
    refine Runs.ret ?_
    obtain rfl := Option.some.inj h
    exact ⟨Out.ret_ne, (by kernel_rfl)⟩
  | false =>
    replace h := ite_f hb_1 h
    refine Runs.cond_f (by kernel_rfl) ?_
    refine Runs.skip ?_
    refine kS_nrm ?_
    refine Runs.seq ?_
    refine Runs.ops ?_
    refine RunAt.chunk 2 [⟨.d (.agg [.int .i64 at_, .int .i64 loc_, .bool false, .int .i64 r_2, .int .i64 which_, .int .i64 r_1, .int .i64 v_.Which, .int .u16 (IntKind.wrap .u16 v_.N)]), []⟩, ⟨.tup [], [([10], some (.cells [.d (.int .i64 at_), .d (.int .i64 loc_), .d (.bool false), .d (.int .i64 r_2), .d (.int .i64 which_), .d (.int .i64 r_1), .d (.int .i64 v_.Which), .d (.int .u16 (IntKind.wrap .u16 v_.N))] 0))]⟩] (by kernel_rfl) ?_
    refine RunAt.done (by kernel_rfl) ?_
    refine kS_nrm ?_
    refine Runs.ret ?_
    obtain rfl := Option.some.inj h
    exact ⟨Out.ret_ne, (by kernel_rfl)⟩
theorem emit_Fix_L (at_ : Int) (loc_ : Int) (v_ : api_Value) (from_ : Int) (which_ : Int) (r : Fixup) (h : emit_Fix at_ loc_ v_ from_ which_ = some r) : L 24 [.d (.int .i64 at_), .d (.int .i64 loc_), .d (api_Value.d v_), .d (.int .i64 from_), .d (.int .i64 which_)] = some (.d (Fixup.d r), [.d (.int .i64 at_), .d (.int .i64 loc_), .d (api_Value.d v_), .d (.int .i64 from_), .d (.int .i64 which_)]) := by
  obtain ⟨p, ⟨hne, hf⟩, hr⟩ := emit_Fix_ok at_ loc_ v_ from_ which_ r h
  obtain ⟨k, hk⟩ := run_of (F := F24) (args := [.d (.int .i64 at_), .d (.int .i64 loc_), .d (api_Value.d v_), .d (.int .i64 from_), .d (.int .i64 which_)]) (ap := [.d (.int .i64 at_), .d (.int .i64 loc_), .d (api_Value.d v_), .d (.int .i64 from_), .d (.int .i64 which_)]) (bx0 := updW (fun _ => none) []) rfl rfl (by kernel_rfl) ⟨p, ⟨hne, hf⟩, hr⟩
  exact lim_run (k := k) rfl hk
def emit_Word_Q (v_ : api_Value) (r : ((List Int) × (List Fixup))) (p : Out × St) : Prop := (∀ i, p.1 ≠ .exit i) ∧ finF F22 [.d (api_Value.d v_)] p.2 = some (.tup [.d (.sl (List.map (D.int .u8) r.1)), .d (.sl (List.map Fixup.d r.2))], [.d (api_Value.d v_)])
theorem emit_Word_ok (v_ : api_Value) (r : ((List Int) × (List Fixup))) (h : emit_Word v_ = some r) : Runs L F22.body ⟨tmOf [.d (api_Value.d v_)] 0, updW (fun _ => none) []⟩ (emit_Word_Q v_ r) := by
  unfold emit_Word at h
  refine Runs.seq ?_
  refine Runs.ops ?_
  refine RunAt.chunk 3 [⟨.ptr [1] 0 0, [([1], some (.cells [.d (.int .i64 v_.N), .d (.int .i64 v_.From), .d (.int .i64 v_.Which), .d (.int .i64 v_.Type_), .d (.int .i64 v_.Wants), .d (.bool v_.Known)] 0))]⟩, ⟨.nils, []⟩, ⟨.nils, []⟩] (by kernel_rfl) ?_
  refine RunAt.done (by kernel_rfl) ?_
  refine kS_nrm ?_
  refine Runs.seq ?_
  refine Runs.seq ?_
  refine Runs.ops ?_
  refine RunAt.chunk 1 [⟨.d (api_Value.d v_), []⟩] (by kernel_rfl) ?_
  obtain ⟨r_1, hr_1, h⟩ := bind_s h
  have hc_1 := value_Plain_L v_ r_1 hr_1
  refine RunAt.cut (some 6) (.callf 55) [] none [.d (api_Value.d v_)] (.d (.bool r_1)) [] (by kernel_rfl) (by kernel_rfl) (by kernel_rfl) (cut_call (call_of (ws := []) (us := []) (by kernel_rfl) (by kernel_rfl) hc_1 (by kernel_rfl) (by kernel_rfl))) ?_
  refine RunAt.done (by kernel_rfl) ?_
  refine kS_nrm ?_
  cases hb_1 : (r_1 : Bool) with
  | true =>
    replace h := ite_t hb_1 h
    refine Runs.cond_t (by kernel_rfl) ?_
    refine Runs.seq ?_
    refine Runs.ops ?_
    refine RunAt.chunk 3 [⟨.ptr [1] 0 0, []⟩, ⟨.d (.int .i64 v_.N), []⟩, ⟨.d (.int .u16 (IntKind.wrap .u16 v_.N)), []⟩] (by kernel_rfl) ?_
    obtain ⟨r_2, hr_2, h⟩ := bind_s h
    have hc_2 := bits_Low_L (IntKind.wrap .u16 v_.N) r_2 hr_2
    refine RunAt.cut (some 10) (.callf 56) [] (some []) [.d (.int .u16 (IntKind.wrap .u16 v_.N))] (.d (.int .u8 r_2)) [] (by kernel_rfl) (by kernel_rfl) (by kernel_rfl) (cut_call (call_of (ws := []) (us := []) (by kernel_rfl) (by kernel_rfl) hc_2 (by kernel_rfl) (by kernel_rfl))) ?_
    refine RunAt.chunk 3 [⟨.ptr [1] 0 0, []⟩, ⟨.d (.int .i64 v_.N), []⟩, ⟨.d (.int .u16 (IntKind.wrap .u16 v_.N)), []⟩] (by kernel_rfl) ?_
    obtain ⟨r_3, hr_3, h⟩ := bind_s h
    have hc_3 := bits_High_L (IntKind.wrap .u16 v_.N) r_3 hr_3
    refine RunAt.cut (some 14) (.callf 57) [] none [.d (.int .u16 (IntKind.wrap .u16 v_.N))] (.d (.int .u8 r_3)) [] (by kernel_rfl) (by kernel_rfl) (by kernel_rfl) (cut_call (call_of (ws := []) (us := []) (by kernel_rfl) (by kernel_rfl) hc_3 (by kernel_rfl) (by kernel_rfl))) ?_
    refine RunAt.chunk 3 [⟨.ref [15] 0 0 (List.map (D.int .u8) ([r_2, r_3] : List Int)).length 1, [([15], some (.arr (List.map (D.int .u8) ([r_2, r_3] : List Int)) 0 false))]⟩, ⟨.ref [15] 0 0 (List.map (D.int .u8) ([r_2, r_3] : List Int)).length 1, []⟩, ⟨.nils, []⟩] (by kernel_rfl) ?_
    refine RunAt.done (by kernel_rfl) ?_
    refine kS_nrm ?_
    refine Runs.seq ?_
    refine Runs.gcons (frz_ref (e := (D.int .u8)) (l := ([r_2, r_3] : List Int)) (id := [15]) (v := 0) (n := 1) (fz := false) (by kernel_rfl) (by kernel_rfl) rfl) ?_
    refine Runs.gcons (frz_nil Fixup.d (by kernel_rfl)) ?_
    refine Runs.gnil ?_
    refine kS_nrm ?_
    refine Runs.ret ?_
    refine kS_ret ?_
    obtain rfl := Option.some.inj h
    exact ⟨Out.ret_ne, (by kernel_rfl)⟩
  | false =>
    replace h := ite_f hb_1 h
    refine Runs.cond_f (by kernel_rfl) ?_
    refine Runs.skip ?_
    refine kS_nrm ?_
    refine Runs.seq ?_
    refine Runs.ops ?_
    refine RunAt.chunk 1 [⟨.d (.int .i64 1), []⟩] (by kernel_rfl) ?_
    refine RunAt.done (by kernel_rfl) ?_
    refine kS_nrm ?_
    refine Runs.seq ?_
    refine Runs.seq ?_
    refine Runs.ops ?_
    refine RunAt.chunk 3 [⟨.ptr [1] 0 4, []⟩, ⟨.d (.int .i64 v_.Wants), []⟩, ⟨.d (.bool (v_.Wants == 2)), []⟩] (by kernel_rfl) ?_
    refine RunAt.done (by kernel_rfl) ?_
    refine kS_nrm ?_
    cases hb_2 : ((v_.Wants == 2) : Bool) with
    | true =>
      replace h := ite_t hb_2 h
      refine Runs.cond_t (by kernel_rfl) ?_
      refine Runs.ops ?_
      refine RunAt.chunk 1 [⟨.d (.int .i64 2), []⟩] (by kernel_rfl) ?_
      refine RunAt.done (by kernel_rfl) ?_
      refine kS_nrm ?_
      refine Runs.seq ?_
      refine Runs.ops ?_
      obtain ⟨z_1, hz_1, h⟩ := bind_s h
      refine RunAt.cut (some 19) (.mkslice (.int .u8 0) 1) [[22], [23]] none [.d (.int .i64 2), .d (.int .i64 2)] (.ref [19] 0 0 (List.map (D.int .u8) z_1).length 1) [([19], some (.arr (List.map (D.int .u8) z_1) 0 false))] (by kernel_rfl) (by kernel_rfl) (by kernel_rfl) (cut_mk (e := (D.int .u8)) (z := 0) hz_1 rfl (by kernel_rfl)) ?_
      refine RunAt.chunk 2 [⟨.d (.int .i64 2), []⟩, ⟨.d (api_Value.d v_), []⟩] (by kernel_rfl) ?_
      obtain ⟨r_4, hr_4, h⟩ := bind_s h
      have hc_4 := emit_Fix_L 0 2 v_ 0 0 r_4 hr_4
      refine RunAt.cut (some 22) (.callf 24) [[19]] (some []) [.d (.int .i64 0), .d (.int .i64 2), .d (api_Value.d v_), .d (.int .i64 0), .d (.int .i64 0)] (.d (Fixup.d r_4)) [] (by kernel_rfl) (by kernel_rfl) (by kernel_rfl) (cut_call (call_of (ws := []) (us := []) (by kernel_rfl) (by kernel_rfl) hc_4 (by kernel_rfl) (by kernel_rfl))) ?_
      refine RunAt.chunk 3 [⟨.ref [23] 0 0 (List.map Fixup.d ([r_4] : List Fixup)).length 8, [([23], some (.arr (List.map Fixup.d ([r_4] : List Fixup)) 0 false))]⟩, ⟨.ref [19] 0 0 (List.map (D.int .u8) z_1).length 1, []⟩, ⟨.ref [23] 0 0 (List.map Fixup.d ([r_4] : List Fixup)).length 8, []⟩] (by kernel_rfl) ?_
      refine RunAt.done (by kernel_rfl) ?_
      refine kS_nrm ?_
      refine Runs.seq ?_
      refine Runs.gcons (frz_ref (e := (D.int .u8)) (l := z_1) (id := [19]) (v := 0) (n := 1) (fz := false) (by kernel_rfl) (by kernel_rfl) rfl) ?_
      refine Runs.gcons (frz_ref (e := Fixup.d) (l := ([r_4] : List Fixup)) (id := [23]) (v := 0) (n := 8) (fz := false) (by kernel_rfl) (by kernel_rfl) rfl) ?_
      refine Runs.gnil ?_
      refine kS_nrm ?_
      refine Runs.ret ?_
      obtain rfl := Option.some.inj h
      exact ⟨Out.ret_ne, (by kernel_rfl)⟩
    | false =>
      replace h := ite_f hb_2 h
      refine Runs.cond_f (by kernel_rfl) ?_
      refine Runs.skip ?_
      refine kS_nrm ?_
      refine Runs.seq ?_
      refine Runs.ops ?_
      obtain ⟨z_2, hz_2, h⟩ := bind_s h
      refine RunAt.cut (some 19) (.mkslice (.int .u8 0) 1) [[22], [23]] none [.d (.int .i64 2), .d (.int .i64 2)] (.ref [19] 0 0 (List.map (D.int .u8) z_2).length 1) [([19], some (.arr (List.map (D.int .u8) z_2) 0 false))] (by kernel_rfl) (by kernel_rfl) (by kernel_rfl) (cut_mk (e := (D.int .u8)) (z := 0) hz_2 rfl (by kernel_rfl)) ?_
      refine RunAt.chunk 2 [⟨.d (.int .i64 1), []⟩, ⟨.d (api_Value.d v_), []⟩] (by kernel_rfl) ?_
      obtain ⟨r_5, hr_5, h⟩ := bind_s h
      have hc_5 := emit_Fix_L 0 1 v_ 0 0 r_5 hr_5
      refine RunAt.cut (some 22) (.callf 24) [[19]] (some []) [.d (.int .i64 0), .d (.int .i64 1), .d (api_Value.d v_), .d (.int .i64 0), .d (.int .i64 0)] (.d (Fixup.d r_5)) [] (by kernel_rfl) (by kernel_rfl) (by kernel_rfl) (cut_call (call_of (ws := []) (us := []) (by kernel_rfl) (by kernel_rfl) hc_5 (by kernel_rfl) (by kernel_rfl))) ?_
      refine RunAt.chunk 3 [⟨.ref [23] 0 0 (List.map Fixup.d ([r_5] : List Fixup)).length 8, [([23], some (.arr (List.map Fixup.d ([r_5] : List Fixup)) 0 false))]⟩, ⟨.ref [19] 0 0 (List.map (D.int .u8) z_2).length 1, []⟩, ⟨.ref [23] 0 0 (List.map Fixup.d ([r_5] : List Fixup)).length 8, []⟩] (by kernel_rfl) ?_
      refine RunAt.done (by kernel_rfl) ?_
      refine kS_nrm ?_
      refine Runs.seq ?_
      refine Runs.gcons (frz_ref (e := (D.int .u8)) (l := z_2) (id := [19]) (v := 0) (n := 1) (fz := false) (by kernel_rfl) (by kernel_rfl) rfl) ?_
      refine Runs.gcons (frz_ref (e := Fixup.d) (l := ([r_5] : List Fixup)) (id := [23]) (v := 0) (n := 8) (fz := false) (by kernel_rfl) (by kernel_rfl) rfl) ?_
      refine Runs.gnil ?_
      refine kS_nrm ?_
      refine Runs.ret ?_
      obtain rfl := Option.some.inj h
      exact ⟨Out.ret_ne, (by kernel_rfl)⟩
theorem emit_Word_L (v_ : api_Value) (r : ((List Int) × (List Fixup))) (h : emit_Word v_ = some r) : L 22 [.d (api_Value.d v_)] = some (.tup [.d (.sl (List.map (D.int .u8) r.1)), .d (.sl (List.map Fixup.d r.2))], [.d (api_Value.d v_)]) := by
  obtain ⟨p, ⟨hne, hf⟩, hr⟩ := emit_Word_ok v_ r h
  obtain ⟨k, hk⟩ := run_of (F := F22) (args := [.d (api_Value.d v_)]) (ap := [.d (api_Value.d v_)]) (bx0 := updW (fun _ => none) []) rfl rfl (by kernel_rfl) ⟨p, ⟨hne, hf⟩, hr⟩
  exact lim_run (k := k) rfl hk
def emit_Long_Q (v_ : api_Value) (r : ((List Int) × (List Fixup))) (p : Out × St) : Prop := (∀ i, p.1 ≠ .exit i) ∧ finF F23 [.d (api_Value.d v_)] p.2 = some (.tup [.d (.sl (List.map (D.int .u8) r.1)), .d (.sl (List.map Fixup.d r.2))], [.d (api_Value.d v_)])
theorem emit_Long_ok (v_ : api_Value) (r : ((List Int) × (List Fixup))) (h : emit_Long v_ = some r) : Runs L F23.body ⟨tmOf [.d (api_Value.d v_)] 0, updW (fun _ => none) []⟩ (emit_Long_Q v_ r) := by
  unfold emit_Long at h
  refine Runs.seq ?_
  refine Runs.ops ?_
  refine RunAt.chunk 3 [⟨.ptr [1] 0 0, [([1], some (.cells [.d (.int .i64 v_.N), .d (.int .i64 v_.From), .d (.int .i64 v_.Which), .d (.int .i64 v_.Type_), .d (.int .i64 v_.Wants), .d (.bool v_.Known)] 0))]⟩, ⟨.nils, []⟩, ⟨.nils, []⟩] (by kernel_rfl) ?_
  refine RunAt.done (by kernel_rfl) ?_
  refine kS_nrm ?_
  refine Runs.seq ?_
  refine Runs.seq ?_
  refine Runs.ops ?_
  refine RunAt.chunk 1 [⟨.d (api_Value.d v_), []⟩] (by kernel_rfl) ?_
  obtain ⟨r_1, hr_1, h⟩ := bind_s h
  have hc_1 := value_Plain_L v_ r_1 hr_1
  refine RunAt.cut (some 6) (.callf 55) [] none [.d (api_Value.d v_)] (.d (.bool r_1)) [] (by kernel_rfl) (by kernel_rfl) (by kernel_rfl) (cut_call (call_of (ws := []) (us := []) (by kernel_rfl) (by kernel_rfl) hc_1 (by kernel_rfl) (by kernel_rfl))) ?_
  refine RunAt.done (by kernel_rfl) ?_
  refine kS_nrm ?_
  cases hb_1 : (r_1 : Bool) with
  | true =>
    replace h := ite_t hb_1 h
    refine Runs.cond_t (by kernel_rfl) ?_
    refine Runs.seq ?_
    refine Runs.ops ?_
    refine RunAt.chunk 4 [⟨.ptr [1] 0 0, []⟩, ⟨.d (.int .i64 v_.N), []⟩, ⟨.d (.int .u32 (IntKind.wrap .u32 v_.N)), []⟩, ⟨.d (.int .u32 (IntKind.wrap .u32 v_.N)), []⟩] (by kernel_rfl) ?_
    refine RunAt.done (by kernel_rfl) ?_
    refine kS_nrm ?_
    refine Runs.seq ?_
    refine Runs.ops ?_
    refine RunAt.chunk 14 [⟨.d (.int .u32 (IntKind.wrap .u32 v_.N)), []⟩, ⟨.d (.int .u8 (IntKind.wrap .u8 (IntKind.wrap .u32 v_.N))), []⟩, ⟨.d (.int .u32 (IntKind.wrap .u32 v_.N)), []⟩, ⟨.d (.int .u32 (shrI .u32 (IntKind.wrap .u32 v_.N) 8)), []⟩, ⟨.d (.int .u8 (IntKind.wrap .u8 (shrI .u32 (IntKind.wrap .u32 v_.N) 8))), []⟩, ⟨.d (.int .u32 (IntKind.wrap .u32 v_.N)), []⟩, ⟨.d (.int .u32 (shrI .u32 (IntKind.wrap .u32 v_.N) 16)), []⟩, ⟨.d (.int .u8 (IntKind.wrap .u8 (shrI .u32 (IntKind.wrap .u32 v_.N) 16))), []⟩, ⟨.d (.int .u32 (IntKind.wrap .u32 v_.N)), []⟩, ⟨.d (.int .u32 (shrI .u32 (IntKind.wrap .u32 v_.N) 24)), []⟩, ⟨.d (.int .u8 (IntKind.wrap .u8 (shrI .u32 (IntKind.wrap .u32 v_.N) 24))), []⟩, ⟨.ref [21] 0 0 (List.map (D.int .u8) ([(IntKind.wrap .u8 (IntKind.wrap .u32 v_.N)), (IntKind.wrap .u8 (shrI .u32 (IntKind.wrap .u32 v_.N) 8)), (IntKind.wrap .u8 (shrI .u32 (IntKind.wrap .u32 v_.N) 16)), (IntKind.wrap .u8 (shrI .u32 (IntKind.wrap .u32 v_.N) 24))] : List Int)).length 1, [([21], some (.arr (List.map (D.int .u8) ([(IntKind.wrap .u8 (IntKind.wrap .u32 v_.N)), (IntKind.wrap .u8 (shrI .u32 (IntKind.wrap .u32 v_.N) 8)), (IntKind.wrap .u8 (shrI .u32 (IntKind.wrap .u32 v_.N) 16)), (IntKind.wrap .u8 (shrI .u32 (IntKind.wrap .u32 v_.N) 24))] : List Int)) 0 false))]⟩, ⟨.ref [21] 0 0 (List.map (D.int .u8) ([(IntKind.wrap .u8 (IntKind.wrap .u32 v_.N)), (IntKind.wrap .u8 (shrI .u32 (IntKind.wrap .u32 v_.N) 8)), (IntKind.wrap .u8 (shrI .u32 (IntKind.wrap .u32 v_.N) 16)), (IntKind.wrap .u8 (shrI .u32 (IntKind.wrap .u32 v_.N) 24))] : List Int)).length 1, []⟩, ⟨.nils, []⟩] (by kernel_rfl) ?_
    refine RunAt.done (by kernel_rfl) ?_
    refine kS_nrm ?_
    refine Runs.seq ?_
    refine Runs.gcons (frz_ref (e := (D.int .u8)) (l := ([(IntKind.wrap .u8 (IntKind.wrap .u32 v_.N)), (IntKind.wrap .u8 (shrI .u32 (IntKind.wrap .u32 v_.N) 8)), (IntKind.wrap .u8 (shrI .u32 (IntKind.wrap .u32 v_.N) 16)), (IntKind.wrap .u8 (shrI .u32 (IntKind.wrap .u32 v_.N) 24))] : List Int)) (id := [21]) (v := 0) (n := 1) (fz := false) (by kernel_rfl) (by kernel_rfl) rfl) ?_
    refine Runs.gcons (frz_nil Fixup.d (by kernel_rfl)) ?_
    refine Runs.gnil ?_
    refine kS_nrm ?_
    refine Runs.ret ?_
    refine kS_ret ?_
    obtain rfl := Option.some.inj h
    exact ⟨Out.ret_ne, (by kernel_rfl)⟩
  | false =>
    replace h := ite_f hb_1 h
    refine Runs.cond_f (by kernel_rfl) ?_
    refine Runs.skip ?_
    refine kS_nrm ?_
    refine Runs.seq ?_
    refine Runs.ops ?_
    obtain ⟨z_1, hz_1, h⟩ := bind_s h
    refine RunAt.cut (some 22) (.mkslice (.int .u8 0) 1) [[24], [25]] none [.d (.int .i64 4), .d (.int .i64 4)] (.ref [22] 0 0 (List.map (D.int .u8) z_1).length 1) [([22], some (.arr (List.map (D.int .u8) z_1) 0 false))] (by kernel_rfl) (by kernel_rfl) (by kernel_rfl) (cut_mk (e := (D.int .u8)) (z := 0) hz_1 rfl (by kernel_rfl)) ?_
    refine RunAt.chunk 1 [⟨.d (api_Value.d v_), []⟩] (by kernel_rfl) ?_
    obtain ⟨r_2, hr_2, h⟩ := bind_s h
    have hc_2 := emit_Fix_L 0 3 v_ 0 0 r_2 hr_2
    refine RunAt.cut (some 24) (.callf 24) [[22]] (some []) [.d (.int .i64 0), .d (.int .i64 3), .d (api_Value.d v_), .d (.int .i64 0), .d (.int .i64 0)] (.d (Fixup.d r_2)) [] (by kernel_rfl) (by kernel_rfl) (by kernel_rfl) (cut_call (call_of (ws := []) (us := []) (by kernel_rfl) (by kernel_rfl) hc_2 (by kernel_rfl) (by kernel_rfl))) ?_
    refine RunAt.chunk 3 [⟨.ref [25] 0 0 (List.map Fixup.d ([r_2] : List Fixup)).length 8, [([25], some (.arr (List.map Fixup.d ([r_2] : List Fixup)) 0 false))]⟩, ⟨.ref [22] 0 0 (List.map (D.int .u8) z_1).length 1, []⟩, ⟨.ref [25] 0 0 (List.map Fixup.d ([r_2] : List Fixup)).length 8, []⟩] (by kernel_rfl) ?_
    refine RunAt.done (by kernel_rfl) ?_
    refine kS_nrm ?_
    refine Runs.seq ?_
    refine Runs.gcons (frz_ref (e := (D.int .u8)) (l := z_1) (id := [22]) (v := 0) (n := 1) (fz := false) (by kernel_rfl) (by kernel_rfl) rfl) ?_
    refine Runs.gcons (frz_ref (e := Fixup.d) (l := ([r_2] : List Fixup)) (id := [25]) (v := 0) (n := 8) (fz := false) (by kernel_rfl) (by kernel_rfl) rfl) ?_
    refine Runs.gnil ?_
    refine kS_nrm ?_
    refine Runs.ret ?_
    obtain rfl := Option.some.inj h
    exact ⟨Out.ret_ne, (by kernel_rfl)⟩
theorem emit_Long_L (v_ : api_Value) (r : ((List Int) × (List Fixup))) (h : emit_Long v_ = some r) : L 23 [.d (api_Value.d v_)] = some (.tup [.d (.sl (List.map (D.int .u8) r.1)), .d (.sl (List.map Fixup.d r.2))], [.d (api_Value.d v_)]) := by
  obtain ⟨p, ⟨hne, hf⟩, hr⟩ := emit_Long_ok v_ r h
  obtain ⟨k, hk⟩ := run_of (F := F23) (args := [.d (api_Value.d v_)]) (ap := [.d (api_Value.d v_)]) (bx0 := updW (fun _ => none) []) rfl rfl (by kernel_rfl) ⟨p, ⟨hne, hf⟩, hr⟩
  exact lim_run (k := k) rfl hk
def hansomlaw37_awake_Q  (r : Bool) (p : Out × St) : Prop := (∀ i, p.1 ≠ .exit i) ∧ finF F26 [] p.2 = some (.d (.bool r), [])
theorem hansomlaw37_awake_ok  (r : Bool) (h : hansomlaw37_awake = some r) : Runs L F26.body ⟨tmOf [] 0, updW (fun _ => none) []⟩ (hansomlaw37_awake_Q  r) := by
  unfold hansomlaw37_awake at h
  refine Runs.seq ?_
  refine Runs.ops ?_
  refine RunAt.chunk 1 [⟨.d (.bool false), []⟩] (by kernel_rfl) ?_
  refine RunAt.done (by kernel_rfl) ?_
  refine kS_nrm ?_
  refine Runs.seq ?_
  refine Runs.ops ?_
  refine RunAt.chunk 1 [⟨.d (.agg [.int .i64 4660, .int .i64 0, .int .i64 0, .int .i64 0, .int .i64 0, .bool true]), []⟩] (by kernel_rfl) ?_
  obtain ⟨r_1, hr_1, h⟩ := bind_s h
  have hc_1 := emit_Word_L ({ N := 4660, From := 0, Which := 0, Type_ := 0, Wants := 0, Known := true } : api_Value) r_1 hr_1
  refine RunAt.cut (some 7) (.callf 22) [] none [.d (.agg [.int .i64 4660, .int .i64 0, .int .i64 0, .int .i64 0, .int .i64 0, .bool true])] (.tup [.d (.sl (List.map (D.int .u8) r_1.1)), .d (.sl (List.map Fixup.d r_1.2))]) [] (by kernel_rfl) (by kernel_rfl) (by kernel_rfl) (cut_call (call_of (ws := []) (us := []) (by kernel_rfl) (by kernel_rfl) hc_1 (by kernel_rfl) (by kernel_rfl))) ?_
  refine RunAt.chunk 5 [⟨.tup [.d (.sl (List.map (D.int .u8) r_1.1)), .d (.sl (List.map Fixup.d r_1.2))], []⟩, ⟨.d (.sl (List.map (D.int .u8) r_1.1)), []⟩, ⟨.d (.sl (List.map Fixup.d r_1.2)), []⟩, ⟨.d (.sl (List.map (D.int .u8) r_1.1)), []⟩, ⟨.d (.sl (List.map Fixup.d r_1.2)), []⟩] (by kernel_rfl) ?_
  refine RunAt.done (by kernel_rfl) ?_
  refine kS_nrm ?_
  refine Runs.seq ?_
  refine Runs.ops ?_
  refine RunAt.chunk 1 [⟨.d (.agg [.int .i64 0, .int .i64 3, .int .i64 2, .int .i64 0, .int .i64 1, .bool false]), []⟩] (by kernel_rfl) ?_
  obtain ⟨r_2, hr_2, h⟩ := bind_s h
  have hc_2 := emit_Word_L ({ N := 0, From := 3, Which := 2, Type_ := 0, Wants := 1, Known := false } : api_Value) r_2 hr_2
  refine RunAt.cut (some 12) (.callf 22) [] none [.d (.agg [.int .i64 0, .int .i64 3, .int .i64 2, .int .i64 0, .int .i64 1, .bool false])] (.tup [.d (.sl (List.map (D.int .u8) r_2.1)), .d (.sl (List.map Fixup.d r_2.2))]) [] (by kernel_rfl) (by kernel_rfl) (by kernel_rfl) (cut_call (call_of (ws := []) (us := []) (by kernel_rfl) (by kernel_rfl) hc_2 (by kernel_rfl) (by kernel_rfl))) ?_
  refine RunAt.chunk 5 [⟨.tup [.d (.sl (List.map (D.int .u8) r_2.1)), .d (.sl (List.map Fixup.d r_2.2))], []⟩, ⟨.d (.sl (List.map (D.int .u8) r_2.1)), []⟩, ⟨.d (.sl (List.map Fixup.d r_2.2)), []⟩, ⟨.d (.sl (List.map (D.int .u8) r_2.1)), []⟩, ⟨.d (.sl (List.map Fixup.d r_2.2)), []⟩] (by kernel_rfl) ?_
  refine RunAt.done (by kernel_rfl) ?_
  refine kS_nrm ?_
  refine Runs.seq ?_
  refine Runs.ops ?_
  refine RunAt.chunk 1 [⟨.d (.sl (List.map (D.int .u8) r_1.1)), []⟩] (by kernel_rfl) ?_
  refine RunAt.cut (some 16) .bytesStr [] none [.d (.sl (List.map (D.int .u8) r_1.1))] (.d (.str (b2s r_1.1))) [] (by kernel_rfl) (by kernel_rfl) (by kernel_rfl) (cut_bs _) ?_
  refine RunAt.chunk 2 [⟨.d (.bool ((b2s r_1.1) == ([52, 18] : List UInt8))), []⟩, ⟨.d (.bool ((b2s r_1.1) == ([52, 18] : List UInt8))), []⟩] (by kernel_rfl) ?_
  cases hb_1 : (((b2s r_1.1) == ([52, 18] : List UInt8)) : Bool) with
  | true =>
    replace h := ite_t hb_1 h
    refine RunAt.chunk 1 [⟨.d (.sl (List.map Fixup.d r_1.2)), []⟩] (by kernel_rfl) ?_
    refine RunAt.cut (some 20) .lenL [] none [.d (.sl (List.map Fixup.d r_1.2))] (.d (.int .i64 (r_1.2.length : Int))) [] (by kernel_rfl) (by kernel_rfl) (by kernel_rfl) (cut_len _) ?_
    refine RunAt.chunk 3 [⟨.d (.bool ((r_1.2.length : Int) == 0)), []⟩, ⟨.d (.bool ((r_1.2.length : Int) == 0)), []⟩, ⟨.d (.bool ((r_1.2.length : Int) == 0)), []⟩] (by kernel_rfl) ?_
    cases hb_2 : (((r_1.2.length : Int) == 0) : Bool) with
    | true =>
      replace h := ite_t hb_2 h
      refine RunAt.chunk 1 [⟨.d (.sl (List.map Fixup.d r_2.2)), []⟩] (by kernel_rfl) ?_
      refine RunAt.cut (some 25) .lenL [] none [.d (.sl (List.map Fixup.d r_2.2))] (.d (.int .i64 (r_2.2.length : Int))) [] (by kernel_rfl) (by kernel_rfl) (by kernel_rfl) (cut_len _) ?_
      refine RunAt.chunk 3 [⟨.d (.bool ((r_2.2.length : Int) == 1)), []⟩, ⟨.d (.bool ((r_2.2.length : Int) == 1)), []⟩, ⟨.d (.bool ((r_2.2.length : Int) == 1)), []⟩] (by kernel_rfl) ?_
      cases hb_3 : (((r_2.2.length : Int) == 1) : Bool) with
      | true =>
        replace h := ite_t hb_3 h
        refine RunAt.chunk 1 [⟨.d (.sl (List.map Fixup.d r_2.2)), []⟩] (by kernel_rfl) ?_
        obtain ⟨z_1, hz_1, h⟩ := bind_s h
        refine RunAt.cut (some 30) (.iaddrS 8) [] none [.d (.sl (List.map Fixup.d r_2.2)), .d (.int .i64 0)] (.elt (Fixup.d z_1) 0) [] (by kernel_rfl) (by kernel_rfl) (by kernel_rfl) (cut_at hz_1 (fun _ => rfl)) ?_
        refine RunAt.chunk 5 [⟨.elt (Fixup.d z_1) 5, []⟩, ⟨.d (.int .i64 z_1.Target), []⟩, ⟨.d (.bool (z_1.Target == 2)), []⟩, ⟨.d (.bool (z_1.Target == 2)), []⟩, ⟨.d (.bool (z_1.Target == 2)), []⟩] (by kernel_rfl) ?_
        cases hb_4 : ((z_1.Target == 2) : Bool) with
        | true =>
          replace h := ite_t hb_4 h
          refine RunAt.chunk 1 [⟨.d (.sl (List.map Fixup.d r_2.2)), []⟩] (by kernel_rfl) ?_
          obtain ⟨z_2, hz_2, h⟩ := bind_s h
          refine RunAt.cut (some 37) (.iaddrS 8) [] none [.d (.sl (List.map Fixup.d r_2.2)), .d (.int .i64 0)] (.elt (Fixup.d z_2) 0) [] (by kernel_rfl) (by kernel_rfl) (by kernel_rfl) (cut_at hz_2 (fun _ => rfl)) ?_
          refine RunAt.chunk 5 [⟨.elt (Fixup.d z_2) 3, []⟩, ⟨.d (.int .i64 z_2.Frame), []⟩, ⟨.d (.bool (z_2.Frame == 5)), []⟩, ⟨.d (.bool (z_2.Frame == 5)), []⟩, ⟨.d (.bool (z_2.Frame == 5)), []⟩] (by kernel_rfl) ?_
          refine RunAt.done (by kernel_rfl) ?_
          refine kS_nrm ?_
          refine Runs.ret ?_
          obtain rfl := Option.some.inj h
          exact ⟨Out.ret_ne, (by kernel_rfl)⟩
        | false =>
          replace h := ite_f hb_4 h
          refine RunAt.chunk 7 [⟨.tup [], []⟩, ⟨.tup [], []⟩, ⟨.tup [], []⟩, ⟨.tup [], []⟩, ⟨.tup [], []⟩, ⟨.d (.bool false), []⟩, ⟨.d (.bool false), []⟩] (by kernel_rfl) ?_
          refine RunAt.done (by kernel_rfl) ?_
          refine kS_nrm ?_
          refine Runs.ret ?_
          obtain rfl := Option.some.inj h
          exact ⟨Out.ret_ne, (by kernel_rfl)⟩
      | false =>
        replace h := ite_f hb_3 h
        refine RunAt.chunk 14 [⟨.tup [], []⟩, ⟨.tup [], []⟩, ⟨.tup [], []⟩, ⟨.tup [], []⟩, ⟨.tup [], []⟩, ⟨.d (.bool false), []⟩, ⟨.d (.bool false), []⟩, ⟨.tup [], []⟩, ⟨.tup [], []⟩, ⟨.tup [], []⟩, ⟨.tup [], []⟩, ⟨.tup [], []⟩, ⟨.d (.bool false), []⟩, ⟨.d (.bool false), []⟩] (by kernel_rfl) ?_
        refine RunAt.done (by kernel_rfl) ?_
        refine kS_nrm ?_
        refine Runs.ret ?_
        obtain rfl := Option.some.inj h
        exact ⟨Out.ret_ne, (by kernel_rfl)⟩
    | false =>
      replace h := ite_f hb_2 h
      refine RunAt.chunk 19 [⟨.tup [], []⟩, ⟨.tup [], []⟩, ⟨.tup [], []⟩, ⟨.d (.bool false), []⟩, ⟨.d (.bool false), []⟩, ⟨.tup [], []⟩, ⟨.tup [], []⟩, ⟨.tup [], []⟩, ⟨.tup [], []⟩, ⟨.tup [], []⟩, ⟨.d (.bool false), []⟩, ⟨.d (.bool false), []⟩, ⟨.tup [], []⟩, ⟨.tup [], []⟩, ⟨.tup [], []⟩, ⟨.tup [], []⟩, ⟨.tup [], []⟩, ⟨.d (.bool false), []⟩, ⟨.d (.bool false), []⟩] (by kernel_rfl) ?_
      refine RunAt.done (by kernel_rfl) ?_
      refine kS_nrm ?_
      refine Runs.ret ?_
      obtain rfl := Option.some.inj h
      exact ⟨Out.ret_ne, (by kernel_rfl)⟩
  | false =>
    replace h := ite_f hb_1 h
    refine RunAt.chunk 24 [⟨.tup [], []⟩, ⟨.tup [], []⟩, ⟨.tup [], []⟩, ⟨.d (.bool false), []⟩, ⟨.d (.bool false), []⟩, ⟨.tup [], []⟩, ⟨.tup [], []⟩, ⟨.tup [], []⟩, ⟨.d (.bool false), []⟩, ⟨.d (.bool false), []⟩, ⟨.tup [], []⟩, ⟨.tup [], []⟩, ⟨.tup [], []⟩, ⟨.tup [], []⟩, ⟨.tup [], []⟩, ⟨.d (.bool false), []⟩, ⟨.d (.bool false), []⟩, ⟨.tup [], []⟩, ⟨.tup [], []⟩, ⟨.tup [], []⟩, ⟨.tup [], []⟩, ⟨.tup [], []⟩, ⟨.d (.bool false), []⟩, ⟨.d (.bool false), []⟩] (by kernel_rfl) ?_
    refine RunAt.done (by kernel_rfl) ?_
    refine kS_nrm ?_
    refine Runs.ret ?_
    obtain rfl := Option.some.inj h
    exact ⟨Out.ret_ne, (by kernel_rfl)⟩
theorem hansomlaw37_awake_L  (r : Bool) (h : hansomlaw37_awake = some r) : L 26 [] = some (.d (.bool r), []) := by
  obtain ⟨p, ⟨hne, hf⟩, hr⟩ := hansomlaw37_awake_ok  r h
  obtain ⟨k, hk⟩ := run_of (F := F26) (args := []) (ap := []) (bx0 := updW (fun _ => none) []) rfl rfl (by kernel_rfl) ⟨p, ⟨hne, hf⟩, hr⟩
  exact lim_run (k := k) rfl hk
def hansomlaw37_EmitValues_h12 (x7 : api_Value) (from1 : Int) (which2 : Int) : St := ⟨tab [(1, .d (.int .i64 from1)), (2, .d (.int .i64 which2)), (7, .ptr [7] 0 0)], tabB [([7], some (.cells [.d (.int .i64 x7.N), .d (.int .i64 x7.From), .d (.int .i64 x7.Which), .d (.int .i64 x7.Type_), .d (.int .i64 x7.Wants), .d (.bool x7.Known)] 0))]⟩
def hansomlaw37_EmitValues_h20 (x7 : api_Value) (from1 : Int) (which2 : Int) (n8 : Int) (b9 : (List Int)) (f10 : (List Fixup)) (c11 : (List Int)) (g12 : (List Fixup)) (by13 : (List Int)) : St := ⟨tab [(1, .d (.int .i64 from1)), (2, .d (.int .i64 which2)), (7, .ptr [7] 0 0), (8, .d (.int .u32 n8)), (9, .d (.sl (List.map (D.int .u8) b9))), (10, .d (.sl (List.map Fixup.d f10))), (11, .d (.sl (List.map (D.int .u8) c11))), (12, .d (.sl (List.map Fixup.d g12))), (13, .d (.sl (List.map (D.int .i64) by13)))], tabB [([7], some (.cells [.d (.int .i64 x7.N), .d (.int .i64 x7.From), .d (.int .i64 x7.Which), .d (.int .i64 x7.Type_), .d (.int .i64 x7.Wants), .d (.bool x7.Known)] 0))]⟩
def hansomlaw37_EmitValues_h41 (x7 : api_Value) (h14 : Fixup) (n8 : Int) (b9 : (List Int)) (f10 : (List Fixup)) (c11 : (List Int)) (g12 : (List Fixup)) (by13 : (List Int)) (frame15 : Int) (fn16 : Int) : St := ⟨tab [(7, .ptr [7] 0 0), (8, .d (.int .u32 n8)), (9, .d (.sl (List.map (D.int .u8) b9))), (10, .d (.sl (List.map Fixup.d f10))), (11, .d (.sl (List.map (D.int .u8) c11))), (12, .d (.sl (List.map Fixup.d g12))), (13, .d (.sl (List.map (D.int .i64) by13))), (14, .ptr [14] 0 0), (15, .d (.int .i64 frame15)), (16, .d (.int .i64 fn16))], tabB [([7], some (.cells [.d (.int .i64 x7.N), .d (.int .i64 x7.From), .d (.int .i64 x7.Which), .d (.int .i64 x7.Type_), .d (.int .i64 x7.Wants), .d (.bool x7.Known)] 0)), ([14], some (.cells [.d (.int .i64 h14.At), .d (.int .i64 h14.Loc), .d (.bool h14.Self), .d (.int .i64 h14.Frame), .d (.int .i64 h14.FrameN), .d (.int .i64 h14.Target), .d (.int .i64 h14.N), .d (.int .u16 h14.Disp)] 0))]⟩
def hansomlaw37_EmitValues_h65 (x7 : api_Value) (b9 : (List Int)) (f10 : (List Fixup)) (c11 : (List Int)) (g12 : (List Fixup)) (loc17 : Int) : St := ⟨tab [(7, .ptr [7] 0 0), (9, .d (.sl (List.map (D.int .u8) b9))), (10, .d (.sl (List.map Fixup.d f10))), (11, .d (.sl (List.map (D.int .u8) c11))), (12, .d (.sl (List.map Fixup.d g12))), (17, .d (.int .i64 loc17))], tabB [([7], some (.cells [.d (.int .i64 x7.N), .d (.int .i64 x7.From), .d (.int .i64 x7.Which), .d (.int .i64 x7.Type_), .d (.int .i64 x7.Wants), .d (.bool x7.Known)] 0))]⟩
def hansomlaw37_EmitValues_Q (v_ : api_Value) (from_ : Int) (which_ : Int) (r : Bool) (p : Out × St) : Prop := (∀ i, p.1 ≠ .exit i) ∧ finF F5 [.d (api_Value.d v_), .d (.int .i64 from_), .d (.int .i64 which_)] p.2 = some (.d (.bool r), [.d (api_Value.d v_), .d (.int .i64 from_), .d (.int .i64 which_)])
theorem hansomlaw37_EmitValues_j65_ok (v_ : api_Value) (from_ : Int) (which_ : Int) (x7 : api_Value) (b9 : (List Int)) (f10 : (List Fixup)) (c11 : (List Int)) (g12 : (List Fixup)) (loc17 : Int) (r : Bool) (h : hansomlaw37_EmitValues_j65 x7 b9 f10 c11 g12 loc17 = some r) : Runs L F5b65 (hansomlaw37_EmitValues_h65 x7 b9 f10 c11 g12 loc17) (hansomlaw37_EmitValues_Q v_ from_ which_ r) := by
  unfold hansomlaw37_EmitValues_j65 at h
  refine Runs.seq ?_
  refine Runs.ops ?_
  obtain ⟨r_6, hr_6, h⟩ := bind_s h
  have hc_6 := hansomlaw37_awake_L r_6 hr_6
  refine RunAt.cut (some 131) (.callf 26) [] none [] (.d (.bool r_6)) [] (by kernel_rfl) (by kernel_rfl) (by kernel_rfl) (cut_call (call_of (ws := []) (us := []) (by kernel_rfl) (by kernel_rfl) hc_6 (by kernel_rfl) (by kernel_rfl))) ?_
  refine RunAt.chunk 1 [⟨.d (.bool r_6), []⟩] (by kernel_rfl) ?_
  cases hb_11 : (r_6 : Bool) with
  | true =>
    replace h := ite_t hb_11 h
    refine RunAt.chunk 1 [⟨.d (.sl (List.map (D.int .u8) b9)), []⟩] (by kernel_rfl) ?_
    refine RunAt.cut (some 134) .bytesStr [] none [.d (.sl (List.map (D.int .u8) b9))] (.d (.str (b2s b9))) [] (by kernel_rfl) (by kernel_rfl) (by kernel_rfl) (cut_bs _) ?_
    refine RunAt.chunk 3 [⟨.d (.bool ((b2s b9) == ([0, 0] : List UInt8))), []⟩, ⟨.d (.bool ((b2s b9) == ([0, 0] : List UInt8))), []⟩, ⟨.d (.bool ((b2s b9) == ([0, 0] : List UInt8))), []⟩] (by kernel_rfl) ?_
    cases hb_12 : (((b2s b9) == ([0, 0] : List UInt8)) : Bool) with
    | true =>
      replace h := ite_t hb_12 h
      refine RunAt.chunk 1 [⟨.d (.sl (List.map Fixup.d f10)), []⟩] (by kernel_rfl) ?_
      refine RunAt.cut (some 139) .lenL [] none [.d (.sl (List.map Fixup.d f10))] (.d (.int .i64 (f10.length : Int))) [] (by kernel_rfl) (by kernel_rfl) (by kernel_rfl) (cut_len _) ?_
      refine RunAt.chunk 3 [⟨.d (.bool ((f10.length : Int) == 1)), []⟩, ⟨.d (.bool ((f10.length : Int) == 1)), []⟩, ⟨.d (.bool ((f10.length : Int) == 1)), []⟩] (by kernel_rfl) ?_
      cases hb_13 : (((f10.length : Int) == 1) : Bool) with
      | true =>
        replace h := ite_t hb_13 h
        refine RunAt.chunk 1 [⟨.d (.sl (List.map Fixup.d f10)), []⟩] (by kernel_rfl) ?_
        obtain ⟨z_3, hz_3, h⟩ := bind_s h
        refine RunAt.cut (some 144) (.iaddrS 8) [] none [.d (.sl (List.map Fixup.d f10)), .d (.int .i64 0)] (.elt (Fixup.d z_3) 0) [] (by kernel_rfl) (by kernel_rfl) (by kernel_rfl) (cut_at hz_3 (fun _ => rfl)) ?_
        refine RunAt.chunk 3 [⟨.d (Fixup.d z_3), []⟩, ⟨.d (.int .i64 loc17), []⟩, ⟨.d (api_Value.d x7), []⟩] (by kernel_rfl) ?_
        obtain ⟨r_7, hr_7, h⟩ := bind_s h
        have hc_7 := emit_Fix_L 0 loc17 x7 0 0 r_7 hr_7
        refine RunAt.cut (some 148) (.callf 24) [] (some []) [.d (.int .i64 0), .d (.int .i64 loc17), .d (api_Value.d x7), .d (.int .i64 0), .d (.int .i64 0)] (.d (Fixup.d r_7)) [] (by kernel_rfl) (by kernel_rfl) (by kernel_rfl) (cut_call (call_of (ws := []) (us := []) (by kernel_rfl) (by kernel_rfl) hc_7 (by kernel_rfl) (by kernel_rfl))) ?_
        refine RunAt.chunk 3 [⟨.d (.bool (z_3.At == r_7.At && (z_3.Loc == r_7.Loc && (z_3.Self == r_7.Self && (z_3.Frame == r_7.Frame && (z_3.FrameN == r_7.FrameN && (z_3.Target == r_7.Target && (z_3.N == r_7.N && (z_3.Disp == r_7.Disp && true))))))))), []⟩, ⟨.d (.bool (z_3.At == r_7.At && (z_3.Loc == r_7.Loc && (z_3.Self == r_7.Self && (z_3.Frame == r_7.Frame && (z_3.FrameN == r_7.FrameN && (z_3.Target == r_7.Target && (z_3.N == r_7.N && (z_3.Disp == r_7.Disp && true))))))))), []⟩, ⟨.d (.bool (z_3.At == r_7.At && (z_3.Loc == r_7.Loc && (z_3.Self == r_7.Self && (z_3.Frame == r_7.Frame && (z_3.FrameN == r_7.FrameN && (z_3.Target == r_7.Target && (z_3.N == r_7.N && (z_3.Disp == r_7.Disp && true))))))))), []⟩] (by kernel_rfl) ?_
        cases hb_14 : ((z_3.At == r_7.At && (z_3.Loc == r_7.Loc && (z_3.Self == r_7.Self && (z_3.Frame == r_7.Frame && (z_3.FrameN == r_7.FrameN && (z_3.Target == r_7.Target && (z_3.N == r_7.N && (z_3.Disp == r_7.Disp && true)))))))) : Bool) with
        | true =>
          replace h := ite_t hb_14 h
          refine RunAt.chunk 1 [⟨.d (.sl (List.map (D.int .u8) c11)), []⟩] (by kernel_rfl) ?_
          refine RunAt.cut (some 153) .bytesStr [] none [.d (.sl (List.map (D.int .u8) c11))] (.d (.str (b2s c11))) [] (by kernel_rfl) (by kernel_rfl) (by kernel_rfl) (cut_bs _) ?_
          refine RunAt.chunk 3 [⟨.d (.bool ((b2s c11) == ([0, 0, 0, 0] : List UInt8))), []⟩, ⟨.d (.bool ((b2s c11) == ([0, 0, 0, 0] : List UInt8))), []⟩, ⟨.d (.bool ((b2s c11) == ([0, 0, 0, 0] : List UInt8))), []⟩] (by kernel_rfl) ?_
          cases hb_15 : (((b2s c11) == ([0, 0, 0, 0] : List UInt8)) : Bool) with
          | true =>
            replace h := ite_t hb_15 h
            refine RunAt.chunk 1 [⟨.d (.sl (List.map Fixup.d g12)), []⟩] (by kernel_rfl) ?_
            refine RunAt.cut (some 158) .lenL [] none [.d (.sl (List.map Fixup.d g12))] (.d (.int .i64 (g12.length : Int))) [] (by kernel_rfl) (by kernel_rfl) (by kernel_rfl) (cut_len _) ?_
            refine RunAt.chunk 3 [⟨.d (.bool ((g12.length : Int) == 1)), []⟩, ⟨.d (.bool ((g12.length : Int) == 1)), []⟩, ⟨.d (.bool ((g12.length : Int) == 1)), []⟩] (by kernel_rfl) ?_
            cases hb_16 : (((g12.length : Int) == 1) : Bool) with
            | true =>
              replace h := ite_t hb_16 h
              refine RunAt.chunk 1 [⟨.d (.sl (List.map Fixup.d g12)), []⟩] (by kernel_rfl) ?_
              obtain ⟨z_4, hz_4, h⟩ := bind_s h
              refine RunAt.cut (some 163) (.iaddrS 8) [] none [.d (.sl (List.map Fixup.d g12)), .d (.int .i64 0)] (.elt (Fixup.d z_4) 0) [] (by kernel_rfl) (by kernel_rfl) (by kernel_rfl) (cut_at hz_4 (fun _ => rfl)) ?_
              refine RunAt.chunk 2 [⟨.d (Fixup.d z_4), []⟩, ⟨.d (api_Value.d x7), []⟩] (by kernel_rfl) ?_
              obtain ⟨r_8, hr_8, h⟩ := bind_s h
              have hc_8 := emit_Fix_L 0 3 x7 0 0 r_8 hr_8
              refine RunAt.cut (some 166) (.callf 24) [] (some []) [.d (.int .i64 0), .d (.int .i64 3), .d (api_Value.d x7), .d (.int .i64 0), .d (.int .i64 0)] (.d (Fixup.d r_8)) [] (by kernel_rfl) (by kernel_rfl) (by kernel_rfl) (cut_call (call_of (ws := []) (us := []) (by kernel_rfl) (by kernel_rfl) hc_8 (by kernel_rfl) (by kernel_rfl))) ?_
              refine RunAt.chunk 3 [⟨.d (.bool (z_4.At == r_8.At && (z_4.Loc == r_8.Loc && (z_4.Self == r_8.Self && (z_4.Frame == r_8.Frame && (z_4.FrameN == r_8.FrameN && (z_4.Target == r_8.Target && (z_4.N == r_8.N && (z_4.Disp == r_8.Disp && true))))))))), []⟩, ⟨.d (.bool (z_4.At == r_8.At && (z_4.Loc == r_8.Loc && (z_4.Self == r_8.Self && (z_4.Frame == r_8.Frame && (z_4.FrameN == r_8.FrameN && (z_4.Target == r_8.Target && (z_4.N == r_8.N && (z_4.Disp == r_8.Disp && true))))))))), []⟩, ⟨.d (.bool (z_4.At == r_8.At && (z_4.Loc == r_8.Loc && (z_4.Self == r_8.Self && (z_4.Frame == r_8.Frame && (z_4.FrameN == r_8.FrameN && (z_4.Target == r_8.Target && (z_4.N == r_8.N && (z_4.Disp == r_8.Disp && true))))))))), []⟩] (by kernel_rfl) ?_
              refine RunAt.done (by kernel_rfl) ?_
              refine kS_nrm ?_
              refine Runs.ret ?_
              obtain rfl := Option.some.inj h
              exact ⟨Out.ret_ne, (by kernel_rfl)⟩
            | false =>
              replace h := ite_f hb_16 h
              refine RunAt.chunk 8 [⟨.tup [], []⟩, ⟨.tup [], []⟩, ⟨.tup [], []⟩, ⟨.tup [], []⟩, ⟨.tup [], []⟩, ⟨.tup [], []⟩, ⟨.d (.bool false), []⟩, ⟨.d (.bool false), []⟩] (by kernel_rfl) ?_
              refine RunAt.done (by kernel_rfl) ?_
              refine kS_nrm ?_
              refine Runs.ret ?_
              obtain rfl := Option.some.inj h
              exact ⟨Out.ret_ne, (by kernel_rfl)⟩
          | false =>
            replace h := ite_f hb_15 h
            refine RunAt.chunk 13 [⟨.tup [], []⟩, ⟨.tup [], []⟩, ⟨.tup [], []⟩, ⟨.d (.bool false), []⟩, ⟨.d (.bool false), []⟩, ⟨.tup [], []⟩, ⟨.tup [], []⟩, ⟨.tup [], []⟩, ⟨.tup [], []⟩, ⟨.tup [], []⟩, ⟨.tup [], []⟩, ⟨.d (.bool false), []⟩, ⟨.d (.bool false), []⟩] (by kernel_rfl) ?_
            refine RunAt.done (by kernel_rfl) ?_
            refine kS_nrm ?_
            refine Runs.ret ?_
            obtain rfl := Option.some.inj h
            exact ⟨Out.ret_ne, (by kernel_rfl)⟩
        | false =>
          replace h := ite_f hb_14 h
          refine RunAt.chunk 18 [⟨.tup [], []⟩, ⟨.tup [], []⟩, ⟨.tup [], []⟩, ⟨.d (.bool false), []⟩, ⟨.d (.bool false), []⟩, ⟨.tup [], []⟩, ⟨.tup [], []⟩, ⟨.tup [], []⟩, ⟨.d (.bool false), []⟩, ⟨.d (.bool false), []⟩, ⟨.tup [], []⟩, ⟨.tup [], []⟩, ⟨.tup [], []⟩, ⟨.tup [], []⟩, ⟨.tup [], []⟩, ⟨.tup [], []⟩, ⟨.d (.bool false), []⟩, ⟨.d (.bool false), []⟩] (by kernel_rfl) ?_
          refine RunAt.done (by kernel_rfl) ?_
          refine kS_nrm ?_
          refine Runs.ret ?_
          obtain rfl := Option.some.inj h
          exact ⟨Out.ret_ne, (by kernel_rfl)⟩
      | false =>
        replace h := ite_f hb_13 h
        refine RunAt.chunk 27 [⟨.tup [], []⟩, ⟨.tup [], []⟩, ⟨.tup [], []⟩, ⟨.tup [], []⟩, ⟨.tup [], []⟩, ⟨.tup [], []⟩, ⟨.tup [], []⟩, ⟨.d (.bool false), []⟩, ⟨.d (.bool false), []⟩, ⟨.tup [], []⟩, ⟨.tup [], []⟩, ⟨.tup [], []⟩, ⟨.d (.bool false), []⟩, ⟨.d (.bool false), []⟩, ⟨.tup [], []⟩, ⟨.tup [], []⟩, ⟨.tup [], []⟩, ⟨.d (.bool false), []⟩, ⟨.d (.bool false), []⟩, ⟨.tup [], []⟩, ⟨.tup [], []⟩, ⟨.tup [], []⟩, ⟨.tup [], []⟩, ⟨.tup [], []⟩, ⟨.tup [], []⟩, ⟨.d (.bool false), []⟩, ⟨.d (.bool false), []⟩] (by kernel_rfl) ?_
        refine RunAt.done (by kernel_rfl) ?_
        refine kS_nrm ?_
        refine Runs.ret ?_
        obtain rfl := Option.some.inj h
        exact ⟨Out.ret_ne, (by kernel_rfl)⟩
    | false =>
      replace h := ite_f hb_12 h
      refine RunAt.chunk 32 [⟨.tup [], []⟩, ⟨.tup [], []⟩, ⟨.tup [], []⟩, ⟨.d (.bool false), []⟩, ⟨.d (.bool false), []⟩, ⟨.tup [], []⟩, ⟨.tup [], []⟩, ⟨.tup [], []⟩, ⟨.tup [], []⟩, ⟨.tup [], []⟩, ⟨.tup [], []⟩, ⟨.tup [], []⟩, ⟨.d (.bool false), []⟩, ⟨.d (.bool false), []⟩, ⟨.tup [], []⟩, ⟨.tup [], []⟩, ⟨.tup [], []⟩, ⟨.d (.bool false), []⟩, ⟨.d (.bool false), []⟩, ⟨.tup [], []⟩, ⟨.tup [], []⟩, ⟨.tup [], []⟩, ⟨.d (.bool false), []⟩, ⟨.d (.bool false), []⟩, ⟨.tup [], []⟩, ⟨.tup [], []⟩, ⟨.tup [], []⟩, ⟨.tup [], []⟩, ⟨.tup [], []⟩, ⟨.tup [], []⟩, ⟨.d (.bool false), []⟩, ⟨.d (.bool false), []⟩] (by kernel_rfl) ?_
      refine RunAt.done (by kernel_rfl) ?_
      refine kS_nrm ?_
      refine Runs.ret ?_
      obtain rfl := Option.some.inj h
      exact ⟨Out.ret_ne, (by kernel_rfl)⟩
  | false =>
    replace h := ite_f hb_11 h
    refine RunAt.chunk 37 [⟨.tup [], []⟩, ⟨.tup [], []⟩, ⟨.tup [], []⟩, ⟨.d (.bool false), []⟩, ⟨.d (.bool false), []⟩, ⟨.tup [], []⟩, ⟨.tup [], []⟩, ⟨.tup [], []⟩, ⟨.d (.bool false), []⟩, ⟨.d (.bool false), []⟩, ⟨.tup [], []⟩, ⟨.tup [], []⟩, ⟨.tup [], []⟩, ⟨.tup [], []⟩, ⟨.tup [], []⟩, ⟨.tup [], []⟩, ⟨.tup [], []⟩, ⟨.d (.bool false), []⟩, ⟨.d (.bool false), []⟩, ⟨.tup [], []⟩, ⟨.tup [], []⟩, ⟨.tup [], []⟩, ⟨.d (.bool false), []⟩, ⟨.d (.bool false), []⟩, ⟨.tup [], []⟩, ⟨.tup [], []⟩, ⟨.tup [], []⟩, ⟨.d (.bool false), []⟩, ⟨.d (.bool false), []⟩, ⟨.tup [], []⟩, ⟨.tup [], []⟩, ⟨.tup [], []⟩, ⟨.tup [], []⟩, ⟨.tup [], []⟩, ⟨.tup [], []⟩, ⟨.d (.bool false), []⟩, ⟨.d (.bool false), []⟩] (by kernel_rfl) ?_
    refine RunAt.done (by kernel_rfl) ?_
    refine kS_nrm ?_
    refine Runs.ret ?_
    obtain rfl := Option.some.inj h
    exact ⟨Out.ret_ne, (by kernel_rfl)⟩
theorem hansomlaw37_EmitValues_j41_ok (v_ : api_Value) (from_ : Int) (which_ : Int) (x7 : api_Value) (h14 : Fixup) (n8 : Int) (b9 : (List Int)) (f10 : (List Fixup)) (c11 : (List Int)) (g12 : (List Fixup)) (by13 : (List Int)) (frame15 : Int) (fn16 : Int) (r : Bool) (h : hansomlaw37_EmitValues_j41 x7 h14 n8 b9 f10 c11 g12 by13 frame15 fn16 = some r) : Runs L F5b41 (hansomlaw37_EmitValues_h41 x7 h14 n8 b9 f10 c11 g12 by13 frame15 fn16) (hansomlaw37_EmitValues_Q v_ from_ which_ r) := by
  unfold hansomlaw37_EmitValues_j41 at h
  refine Runs.seq ?_
  refine Runs.seq ?_
  refine Runs.ops ?_
  refine RunAt.chunk 6 [⟨.d (Fixup.d h14), []⟩, ⟨.d (.int .i64 frame15), []⟩, ⟨.d (.int .i64 fn16), []⟩, ⟨.d (.sl (List.map (D.int .i64) by13)), []⟩, ⟨.ptr [7] 0 1, []⟩, ⟨.d (.int .i64 x7.From), []⟩] (by kernel_rfl) ?_
  obtain ⟨z_1, hz_1, h⟩ := bind_s h
  refine RunAt.cut (some 64) (.iaddrS 1) [] none [.d (.sl (List.map (D.int .i64) by13)), .d (.int .i64 x7.From)] (.elt (.int .i64 z_1) 0) [] (by kernel_rfl) (by kernel_rfl) (by kernel_rfl) (cut_at hz_1 (fun _ => rfl)) ?_
  refine RunAt.chunk 9 [⟨.d (.int .i64 z_1), []⟩, ⟨.ptr [7] 0 2, []⟩, ⟨.d (.int .i64 x7.Which), []⟩, ⟨.ptr [7] 0 0, []⟩, ⟨.d (.int .i64 x7.N), []⟩, ⟨.d (.int .u16 (IntKind.wrap .u16 x7.N)), []⟩, ⟨.d (.agg [.int .i64 3, .int .i64 0, .bool false, .int .i64 frame15, .int .i64 fn16, .int .i64 z_1, .int .i64 x7.Which, .int .u16 (IntKind.wrap .u16 x7.N)]), []⟩, ⟨.d (.bool (!(h14.At == 3 && (h14.Loc == 0 && (h14.Self == false && (h14.Frame == frame15 && (h14.FrameN == fn16 && (h14.Target == z_1 && (h14.N == x7.Which && (h14.Disp == (IntKind.wrap .u16 x7.N) && true)))))))))), []⟩, ⟨.d (.bool (!(h14.At == 3 && (h14.Loc == 0 && (h14.Self == false && (h14.Frame == frame15 && (h14.FrameN == fn16 && (h14.Target == z_1 && (h14.N == x7.Which && (h14.Disp == (IntKind.wrap .u16 x7.N) && true)))))))))), []⟩] (by kernel_rfl) ?_
  cases hb_3 : ((!(h14.At == 3 && (h14.Loc == 0 && (h14.Self == false && (h14.Frame == frame15 && (h14.FrameN == fn16 && (h14.Target == z_1 && (h14.N == x7.Which && (h14.Disp == (IntKind.wrap .u16 x7.N) && true))))))))) : Bool) with
  | true =>
    replace h := ite_t hb_3 h
    refine RunAt.chunk 10 [⟨.tup [], []⟩, ⟨.tup [], []⟩, ⟨.tup [], []⟩, ⟨.tup [], []⟩, ⟨.tup [], []⟩, ⟨.tup [], []⟩, ⟨.tup [], []⟩, ⟨.tup [], []⟩, ⟨.tup [], []⟩, ⟨.d (.bool true), []⟩] (by kernel_rfl) ?_
    refine RunAt.done (by kernel_rfl) ?_
    refine kS_nrm ?_
    refine Runs.cond_t (by kernel_rfl) ?_
    refine Runs.seq ?_
    refine Runs.ops ?_
    refine RunAt.chunk 1 [⟨.d (.bool false), []⟩] (by kernel_rfl) ?_
    refine RunAt.done (by kernel_rfl) ?_
    refine kS_nrm ?_
    refine Runs.ret ?_
    refine kS_ret ?_
    obtain rfl := Option.some.inj h
    exact ⟨Out.ret_ne, (by kernel_rfl)⟩
  | false =>
    replace h := ite_f hb_3 h
    refine RunAt.chunk 2 [⟨.ptr [7] 0 1, []⟩, ⟨.d (.int .i64 x7.From), []⟩] (by kernel_rfl) ?_
    obtain ⟨r_4, hr_4, h⟩ := bind_s h
    have hc_4 := emit_By_L x7.From r_4 hr_4
    refine RunAt.cut (some 76) (.callf 25) [] (some []) [.d (.int .i64 x7.From)] (.d (.int .i64 r_4)) [] (by kernel_rfl) (by kernel_rfl) (by kernel_rfl) (cut_call (call_of (ws := []) (us := []) (by kernel_rfl) (by kernel_rfl) hc_4 (by kernel_rfl) (by kernel_rfl))) ?_
    refine RunAt.chunk 3 [⟨.d (.sl (List.map (D.int .i64) by13)), []⟩, ⟨.ptr [7] 0 1, []⟩, ⟨.d (.int .i64 x7.From), []⟩] (by kernel_rfl) ?_
    obtain ⟨z_2, hz_2, h⟩ := bind_s h
    refine RunAt.cut (some 80) (.iaddrS 1) [] none [.d (.sl (List.map (D.int .i64) by13)), .d (.int .i64 x7.From)] (.elt (.int .i64 z_2) 0) [] (by kernel_rfl) (by kernel_rfl) (by kernel_rfl) (cut_at hz_2 (fun _ => rfl)) ?_
    refine RunAt.chunk 3 [⟨.d (.int .i64 z_2), []⟩, ⟨.d (.bool (r_4 != z_2)), []⟩, ⟨.d (.bool (r_4 != z_2)), []⟩] (by kernel_rfl) ?_
    refine RunAt.done (by kernel_rfl) ?_
    refine kS_nrm ?_
    cases hb_4 : ((r_4 != z_2) : Bool) with
    | true =>
      replace h := ite_t hb_4 h
      refine Runs.cond_t (by kernel_rfl) ?_
      refine Runs.seq ?_
      refine Runs.ops ?_
      refine RunAt.chunk 1 [⟨.d (.bool false), []⟩] (by kernel_rfl) ?_
      refine RunAt.done (by kernel_rfl) ?_
      refine kS_nrm ?_
      refine Runs.ret ?_
      refine kS_ret ?_
      obtain rfl := Option.some.inj h
      exact ⟨Out.ret_ne, (by kernel_rfl)⟩
    | false =>
      replace h := ite_f hb_4 h
      refine Runs.cond_f (by kernel_rfl) ?_
      refine Runs.skip ?_
      refine kS_nrm ?_
      refine Runs.seq ?_
      refine Runs.seq ?_
      refine Runs.ops ?_
      refine RunAt.chunk 3 [⟨.ptr [7] 0 1, []⟩, ⟨.d (.int .i64 x7.From), []⟩, ⟨.d (.bool (x7.From == 0)), []⟩] (by kernel_rfl) ?_
      refine RunAt.done (by kernel_rfl) ?_
      refine kS_nrm ?_
      cases hb_5 : ((x7.From == 0) : Bool) with
      | true =>
        replace h := ite_t hb_5 h
        refine Runs.cond_t (by kernel_rfl) ?_
        refine Runs.seq ?_
        refine Runs.ops ?_
        obtain ⟨r_5, hr_5, h⟩ := bind_s h
        have hc_5 := hansomlaw37_awake_L r_5 hr_5
        refine RunAt.cut (some 87) (.callf 26) [] none [] (.d (.bool r_5)) [] (by kernel_rfl) (by kernel_rfl) (by kernel_rfl) (cut_call (call_of (ws := []) (us := []) (by kernel_rfl) (by kernel_rfl) hc_5 (by kernel_rfl) (by kernel_rfl))) ?_
        refine RunAt.chunk 1 [⟨.d (.bool r_5), []⟩] (by kernel_rfl) ?_
        cases hb_6 : (r_5 : Bool) with
        | true =>
          replace h := ite_t hb_6 h
          refine RunAt.chunk 1 [⟨.d (.sl (List.map (D.int .u8) b9)), []⟩] (by kernel_rfl) ?_
          refine RunAt.cut (some 90) .bytesStr [] none [.d (.sl (List.map (D.int .u8) b9))] (.d (.str (b2s b9))) [] (by kernel_rfl) (by kernel_rfl) (by kernel_rfl) (cut_bs _) ?_
          refine RunAt.chunk 6 [⟨.d (.int .u32 n8), []⟩, ⟨.d (.int .u8 (IntKind.wrap .u8 n8)), []⟩, ⟨.d (.int .u32 n8), []⟩, ⟨.d (.int .u32 (shrI .u32 n8 8)), []⟩, ⟨.d (.int .u8 (IntKind.wrap .u8 (shrI .u32 n8 8))), []⟩, ⟨.ref [96] 0 0 (List.map (D.int .u8) ([(IntKind.wrap .u8 n8), (IntKind.wrap .u8 (shrI .u32 n8 8))] : List Int)).length 1, [([96], some (.arr (List.map (D.int .u8) ([(IntKind.wrap .u8 n8), (IntKind.wrap .u8 (shrI .u32 n8 8))] : List Int)) 0 false))]⟩] (by kernel_rfl) ?_
          refine RunAt.cut (some 97) .bytesStr [] none [.ref [96] 0 0 (List.map (D.int .u8) ([(IntKind.wrap .u8 n8), (IntKind.wrap .u8 (shrI .u32 n8 8))] : List Int)).length 1] (.d (.str (b2s ([(IntKind.wrap .u8 n8), (IntKind.wrap .u8 (shrI .u32 n8 8))] : List Int)))) [] (by kernel_rfl) (by kernel_rfl) (by kernel_rfl) (cut_bsR (l := ([(IntKind.wrap .u8 n8), (IntKind.wrap .u8 (shrI .u32 n8 8))] : List Int)) (fz := false) (by kernel_rfl) (by kernel_rfl) rfl) ?_
          refine RunAt.chunk 3 [⟨.d (.bool ((b2s b9) == (b2s ([(IntKind.wrap .u8 n8), (IntKind.wrap .u8 (shrI .u32 n8 8))] : List Int)))), []⟩, ⟨.d (.bool ((b2s b9) == (b2s ([(IntKind.wrap .u8 n8), (IntKind.wrap .u8 (shrI .u32 n8 8))] : List Int)))), []⟩, ⟨.d (.bool ((b2s b9) == (b2s ([(IntKind.wrap .u8 n8), (IntKind.wrap .u8 (shrI .u32 n8 8))] : List Int)))), []⟩] (by kernel_rfl) ?_
          cases hb_7 : (((b2s b9) == (b2s ([(IntKind.wrap .u8 n8), (IntKind.wrap .u8 (shrI .u32 n8 8))] : List Int))) : Bool) with
          | true =>
            replace h := ite_t hb_7 h
            refine RunAt.chunk 1 [⟨.d (.sl (List.map Fixup.d f10)), []⟩] (by kernel_rfl) ?_
            refine RunAt.cut (some 102) .lenL [] none [.d (.sl (List.map Fixup.d f10))] (.d (.int .i64 (f10.length : Int))) [] (by kernel_rfl) (by kernel_rfl) (by kernel_rfl) (cut_len _) ?_
            refine RunAt.chunk 3 [⟨.d (.bool ((f10.length : Int) == 0)), []⟩, ⟨.d (.bool ((f10.length : Int) == 0)), []⟩, ⟨.d (.bool ((f10.length : Int) == 0)), []⟩] (by kernel_rfl) ?_
            cases hb_8 : (((f10.length : Int) == 0) : Bool) with
            | true =>
              replace h := ite_t hb_8 h
              refine RunAt.chunk 1 [⟨.d (.sl (List.map (D.int .u8) c11)), []⟩] (by kernel_rfl) ?_
              refine RunAt.cut (some 107) .bytesStr [] none [.d (.sl (List.map (D.int .u8) c11))] (.d (.str (b2s c11))) [] (by kernel_rfl) (by kernel_rfl) (by kernel_rfl) (cut_bs _) ?_
              refine RunAt.chunk 12 [⟨.d (.int .u32 n8), []⟩, ⟨.d (.int .u8 (IntKind.wrap .u8 n8)), []⟩, ⟨.d (.int .u32 n8), []⟩, ⟨.d (.int .u32 (shrI .u32 n8 8)), []⟩, ⟨.d (.int .u8 (IntKind.wrap .u8 (shrI .u32 n8 8))), []⟩, ⟨.d (.int .u32 n8), []⟩, ⟨.d (.int .u32 (shrI .u32 n8 16)), []⟩, ⟨.d (.int .u8 (IntKind.wrap .u8 (shrI .u32 n8 16))), []⟩, ⟨.d (.int .u32 n8), []⟩, ⟨.d (.int .u32 (shrI .u32 n8 24)), []⟩, ⟨.d (.int .u8 (IntKind.wrap .u8 (shrI .u32 n8 24))), []⟩, ⟨.ref [119] 0 0 (List.map (D.int .u8) ([(IntKind.wrap .u8 n8), (IntKind.wrap .u8 (shrI .u32 n8 8)), (IntKind.wrap .u8 (shrI .u32 n8 16)), (IntKind.wrap .u8 (shrI .u32 n8 24))] : List Int)).length 1, [([119], some (.arr (List.map (D.int .u8) ([(IntKind.wrap .u8 n8), (IntKind.wrap .u8 (shrI .u32 n8 8)), (IntKind.wrap .u8 (shrI .u32 n8 16)), (IntKind.wrap .u8 (shrI .u32 n8 24))] : List Int)) 0 false))]⟩] (by kernel_rfl) ?_
              refine RunAt.cut (some 120) .bytesStr [] none [.ref [119] 0 0 (List.map (D.int .u8) ([(IntKind.wrap .u8 n8), (IntKind.wrap .u8 (shrI .u32 n8 8)), (IntKind.wrap .u8 (shrI .u32 n8 16)), (IntKind.wrap .u8 (shrI .u32 n8 24))] : List Int)).length 1] (.d (.str (b2s ([(IntKind.wrap .u8 n8), (IntKind.wrap .u8 (shrI .u32 n8 8)), (IntKind.wrap .u8 (shrI .u32 n8 16)), (IntKind.wrap .u8 (shrI .u32 n8 24))] : List Int)))) [] (by kernel_rfl) (by kernel_rfl) (by kernel_rfl) (cut_bsR (l := ([(IntKind.wrap .u8 n8), (IntKind.wrap .u8 (shrI .u32 n8 8)), (IntKind.wrap .u8 (shrI .u32 n8 16)), (IntKind.wrap .u8 (shrI .u32 n8 24))] : List Int)) (fz := false) (by kernel_rfl) (by kernel_rfl) rfl) ?_
              refine RunAt.chunk 3 [⟨.d (.bool ((b2s c11) == (b2s ([(IntKind.wrap .u8 n8), (IntKind.wrap .u8 (shrI .u32 n8 8)), (IntKind.wrap .u8 (shrI .u32 n8 16)), (IntKind.wrap .u8 (shrI .u32 n8 24))] : List Int)))), []⟩, ⟨.d (.bool ((b2s c11) == (b2s ([(IntKind.wrap .u8 n8), (IntKind.wrap .u8 (shrI .u32 n8 8)), (IntKind.wrap .u8 (shrI .u32 n8 16)), (IntKind.wrap .u8 (shrI .u32 n8 24))] : List Int)))), []⟩, ⟨.d (.bool ((b2s c11) == (b2s ([(IntKind.wrap .u8 n8), (IntKind.wrap .u8 (shrI .u32 n8 8)), (IntKind.wrap .u8 (shrI .u32 n8 16)), (IntKind.wrap .u8 (shrI .u32 n8 24))] : List Int)))), []⟩] (by kernel_rfl) ?_
              cases hb_9 : (((b2s c11) == (b2s ([(IntKind.wrap .u8 n8), (IntKind.wrap .u8 (shrI .u32 n8 8)), (IntKind.wrap .u8 (shrI .u32 n8 16)), (IntKind.wrap .u8 (shrI .u32 n8 24))] : List Int))) : Bool) with
              | true =>
                replace h := ite_t hb_9 h
                refine RunAt.chunk 1 [⟨.d (.sl (List.map Fixup.d g12)), []⟩] (by kernel_rfl) ?_
                refine RunAt.cut (some 125) .lenL [] none [.d (.sl (List.map Fixup.d g12))] (.d (.int .i64 (g12.length : Int))) [] (by kernel_rfl) (by kernel_rfl) (by kernel_rfl) (cut_len _) ?_
                refine RunAt.chunk 3 [⟨.d (.bool ((g12.length : Int) == 0)), []⟩, ⟨.d (.bool ((g12.length : Int) == 0)), []⟩, ⟨.d (.bool ((g12.length : Int) == 0)), []⟩] (by kernel_rfl) ?_
                refine RunAt.done (by kernel_rfl) ?_
                refine kS_nrm ?_
                refine Runs.ret ?_
                refine kS_ret ?_
                obtain rfl := Option.some.inj h
                exact ⟨Out.ret_ne, (by kernel_rfl)⟩
              | false =>
                replace h := ite_f hb_9 h
                refine RunAt.chunk 5 [⟨.tup [], []⟩, ⟨.tup [], []⟩, ⟨.tup [], []⟩, ⟨.d (.bool false), []⟩, ⟨.d (.bool false), []⟩] (by kernel_rfl) ?_
                refine RunAt.done (by kernel_rfl) ?_
                refine kS_nrm ?_
                refine Runs.ret ?_
                refine kS_ret ?_
                obtain rfl := Option.some.inj h
                exact ⟨Out.ret_ne, (by kernel_rfl)⟩
            | false =>
              replace h := ite_f hb_8 h
              refine RunAt.chunk 23 [⟨.tup [], []⟩, ⟨.tup [], []⟩, ⟨.tup [], []⟩, ⟨.tup [], []⟩, ⟨.tup [], []⟩, ⟨.tup [], []⟩, ⟨.tup [], []⟩, ⟨.tup [], []⟩, ⟨.tup [], []⟩, ⟨.tup [], []⟩, ⟨.tup [], []⟩, ⟨.tup [], []⟩, ⟨.tup [], []⟩, ⟨.tup [], []⟩, ⟨.tup [], []⟩, ⟨.tup [], []⟩, ⟨.d (.bool false), []⟩, ⟨.d (.bool false), []⟩, ⟨.tup [], []⟩, ⟨.tup [], []⟩, ⟨.tup [], []⟩, ⟨.d (.bool false), []⟩, ⟨.d (.bool false), []⟩] (by kernel_rfl) ?_
              refine RunAt.done (by kernel_rfl) ?_
              refine kS_nrm ?_
              refine Runs.ret ?_
              refine kS_ret ?_
              obtain rfl := Option.some.inj h
              exact ⟨Out.ret_ne, (by kernel_rfl)⟩
          | false =>
            replace h := ite_f hb_7 h
            refine RunAt.chunk 28 [⟨.tup [], []⟩, ⟨.tup [], []⟩, ⟨.tup [], []⟩, ⟨.d (.bool false), []⟩, ⟨.d (.bool false), []⟩, ⟨.tup [], []⟩, ⟨.tup [], []⟩, ⟨.tup [], []⟩, ⟨.tup [], []⟩, ⟨.tup [], []⟩, ⟨.tup [], []⟩, ⟨.tup [], []⟩, ⟨.tup [], []⟩, ⟨.tup [], []⟩, ⟨.tup [], []⟩, ⟨.tup [], []⟩, ⟨.tup [], []⟩, ⟨.tup [], []⟩, ⟨.tup [], []⟩, ⟨.tup [], []⟩, ⟨.tup [], []⟩, ⟨.d (.bool false), []⟩, ⟨.d (.bool false), []⟩, ⟨.tup [], []⟩, ⟨.tup [], []⟩, ⟨.tup [], []⟩, ⟨.d (.bool false), []⟩, ⟨.d (.bool false), []⟩] (by kernel_rfl) ?_
            refine RunAt.done (by kernel_rfl) ?_
            refine kS_nrm ?_
            refine Runs.ret ?_
            refine kS_ret ?_
            obtain rfl := Option.some.inj h
            exact ⟨Out.ret_ne, (by kernel_rfl)⟩
        | false =>
          replace h := ite_f hb_6 h
          refine RunAt.chunk 40 [⟨.tup [], []⟩, ⟨.tup [], []⟩, ⟨.tup [], []⟩, ⟨.tup [], []⟩, ⟨.tup [], []⟩, ⟨.tup [], []⟩, ⟨.tup [], []⟩, ⟨.tup [], []⟩, ⟨.tup [], []⟩, ⟨.tup [], []⟩, ⟨.d (.bool false), []⟩, ⟨.d (.bool false), []⟩, ⟨.tup [], []⟩, ⟨.tup [], []⟩, ⟨.tup [], []⟩, ⟨.d (.bool false), []⟩, ⟨.d (.bool false), []⟩, ⟨.tup [], []⟩, ⟨.tup [], []⟩, ⟨.tup [], []⟩, ⟨.tup [], []⟩, ⟨.tup [], []⟩, ⟨.tup [], []⟩, ⟨.tup [], []⟩, ⟨.tup [], []⟩, ⟨.tup [], []⟩, ⟨.tup [], []⟩, ⟨.tup [], []⟩, ⟨.tup [], []⟩, ⟨.tup [], []⟩, ⟨.tup [], []⟩, ⟨.tup [], []⟩, ⟨.tup [], []⟩, ⟨.d (.bool false), []⟩, ⟨.d (.bool false), []⟩, ⟨.tup [], []⟩, ⟨.tup [], []⟩, ⟨.tup [], []⟩, ⟨.d (.bool false), []⟩, ⟨.d (.bool false), []⟩] (by kernel_rfl) ?_
          refine RunAt.done (by kernel_rfl) ?_
          refine kS_nrm ?_
          refine Runs.ret ?_
          refine kS_ret ?_
          obtain rfl := Option.some.inj h
          exact ⟨Out.ret_ne, (by kernel_rfl)⟩
      | false =>
        replace h := ite_f hb_5 h
        refine Runs.cond_f (by kernel_rfl) ?_
        refine Runs.skip ?_
        refine kS_nrm ?_
        refine Runs.seq ?_
        refine Runs.ops ?_
        refine RunAt.chunk 1 [⟨.d (.int .i64 1), []⟩] (by kernel_rfl) ?_
        refine RunAt.done (by kernel_rfl) ?_
        refine kS_nrm ?_
        refine Runs.seq ?_
        refine Runs.seq ?_
        refine Runs.ops ?_
        refine RunAt.chunk 3 [⟨.ptr [7] 0 4, []⟩, ⟨.d (.int .i64 x7.Wants), []⟩, ⟨.d (.bool (x7.Wants == 2)), []⟩] (by kernel_rfl) ?_
        refine RunAt.done (by kernel_rfl) ?_
        refine kS_nrm ?_
        cases hb_10 : ((x7.Wants == 2) : Bool) with
        | true =>
          replace h := ite_t hb_10 h
          refine Runs.cond_t (by kernel_rfl) ?_
          refine Runs.ops ?_
          refine RunAt.chunk 1 [⟨.d (.int .i64 2), []⟩] (by kernel_rfl) ?_
          refine RunAt.done (by kernel_rfl) ?_
          refine kS_nrm ?_
          refine Runs.canon (hansomlaw37_EmitValues_h65 x7 b9 f10 c11 g12 2) (Canon.nil (by kernel_rfl)) ?_
          exact hansomlaw37_EmitValues_j65_ok v_ from_ which_ x7 b9 f10 c11 g12 2 r h
        | false =>
          replace h := ite_f hb_10 h
          refine Runs.cond_f (by kernel_rfl) ?_
          refine Runs.skip ?_
          refine kS_nrm ?_
          refine Runs.canon (hansomlaw37_EmitValues_h65 x7 b9 f10 c11 g12 1) (Canon.nil (by kernel_rfl)) ?_
          exact hansomlaw37_EmitValues_j65_ok v_ from_ which_ x7 b9 f10 c11 g12 1 r h
theorem hansomlaw37_EmitValues_j12_ok (v_ : api_Value) (from_ : Int) (which_ : Int) (x7 : api_Value) (from1 : Int) (which2 : Int) (r : Bool) (h : hansomlaw37_EmitValues_j12 x7 from1 which2 = some r) : Runs L F5b12 (hansomlaw37_EmitValues_h12 x7 from1 which2) (hansomlaw37_EmitValues_Q v_ from_ which_ r) := by
  unfold hansomlaw37_EmitValues_j12 at h
  refine Runs.seq ?_
  refine Runs.ops ?_
  refine RunAt.chunk 4 [⟨.ptr [7] 0 0, []⟩, ⟨.d (.int .i64 x7.N), []⟩, ⟨.d (.int .u32 (IntKind.wrap .u32 x7.N)), []⟩, ⟨.d (.int .u32 (IntKind.wrap .u32 x7.N)), []⟩] (by kernel_rfl) ?_
  refine RunAt.done (by kernel_rfl) ?_
  refine kS_nrm ?_
  refine Runs.seq ?_
  refine Runs.ops ?_
  refine RunAt.chunk 1 [⟨.d (api_Value.d x7), []⟩] (by kernel_rfl) ?_
  obtain ⟨r_1, hr_1, h⟩ := bind_s h
  have hc_1 := emit_Word_L x7 r_1 hr_1
  refine RunAt.cut (some 37) (.callf 22) [] none [.d (api_Value.d x7)] (.tup [.d (.sl (List.map (D.int .u8) r_1.1)), .d (.sl (List.map Fixup.d r_1.2))]) [] (by kernel_rfl) (by kernel_rfl) (by kernel_rfl) (cut_call (call_of (ws := []) (us := []) (by kernel_rfl) (by kernel_rfl) hc_1 (by kernel_rfl) (by kernel_rfl))) ?_
  refine RunAt.chunk 5 [⟨.tup [.d (.sl (List.map (D.int .u8) r_1.1)), .d (.sl (List.map Fixup.d r_1.2))], []⟩, ⟨.d (.sl (List.map (D.int .u8) r_1.1)), []⟩, ⟨.d (.sl (List.map Fixup.d r_1.2)), []⟩, ⟨.d (.sl (List.map (D.int .u8) r_1.1)), []⟩, ⟨.d (.sl (List.map Fixup.d r_1.2)), []⟩] (by kernel_rfl) ?_
  refine RunAt.done (by kernel_rfl) ?_
  refine kS_nrm ?_
  refine Runs.seq ?_
  refine Runs.ops ?_
  refine RunAt.chunk 1 [⟨.d (api_Value.d x7), []⟩] (by kernel_rfl) ?_
  obtain ⟨r_2, hr_2, h⟩ := bind_s h
  have hc_2 := emit_Long_L x7 r_2 hr_2
  refine RunAt.cut (some 42) (.callf 23) [] none [.d (api_Value.d x7)] (.tup [.d (.sl (List.map (D.int .u8) r_2.1)), .d (.sl (List.map Fixup.d r_2.2))]) [] (by kernel_rfl) (by kernel_rfl) (by kernel_rfl) (cut_call (call_of (ws := []) (us := []) (by kernel_rfl) (by kernel_rfl) hc_2 (by kernel_rfl) (by kernel_rfl))) ?_
  refine RunAt.chunk 5 [⟨.tup [.d (.sl (List.map (D.int .u8) r_2.1)), .d (.sl (List.map Fixup.d r_2.2))], []⟩, ⟨.d (.sl (List.map (D.int .u8) r_2.1)), []⟩, ⟨.d (.sl (List.map Fixup.d r_2.2)), []⟩, ⟨.d (.sl (List.map (D.int .u8) r_2.1)), []⟩, ⟨.d (.sl (List.map Fixup.d r_2.2)), []⟩] (by kernel_rfl) ?_
  refine RunAt.done (by kernel_rfl) ?_
  refine kS_nrm ?_
  refine Runs.seq ?_
  refine Runs.ops ?_
  refine RunAt.chunk 2 [⟨.ref [45] 0 0 (List.map (D.int .i64) ([0, 0, 1, 2] : List Int)).length 1, [([45], some (.arr (List.map (D.int .i64) ([0, 0, 1, 2] : List Int)) 0 false))]⟩, ⟨.ref [45] 0 0 (List.map (D.int .i64) ([0, 0, 1, 2] : List Int)).length 1, []⟩] (by kernel_rfl) ?_
  refine RunAt.done (by kernel_rfl) ?_
  refine kS_nrm ?_
  refine Runs.canon (hansomlaw37_EmitValues_h20 x7 from1 which2 (IntKind.wrap .u32 x7.N) r_1.1 r_1.2 r_2.1 r_2.2 ([0, 0, 1, 2] : List Int)) (Canon.cons (frz_ref (e := (D.int .i64)) (l := ([0, 0, 1, 2] : List Int)) (id := [45]) (v := 0) (n := 1) (fz := false) (by kernel_rfl) (by kernel_rfl) rfl) (Canon.nil (by kernel_rfl))) ?_
  refine Runs.seq ?_
  refine Runs.ops ?_
  refine RunAt.chunk 3 [⟨.d (api_Value.d x7), []⟩, ⟨.d (.int .i64 from1), []⟩, ⟨.d (.int .i64 which2), []⟩] (by kernel_rfl) ?_
  obtain ⟨r_3, hr_3, h⟩ := bind_s h
  have hc_3 := emit_Fix_L 3 0 x7 from1 which2 r_3 hr_3
  refine RunAt.cut (some 49) (.callf 24) [] none [.d (.int .i64 3), .d (.int .i64 0), .d (api_Value.d x7), .d (.int .i64 from1), .d (.int .i64 which2)] (.d (Fixup.d r_3)) [] (by kernel_rfl) (by kernel_rfl) (by kernel_rfl) (cut_call (call_of (ws := []) (us := []) (by kernel_rfl) (by kernel_rfl) hc_3 (by kernel_rfl) (by kernel_rfl))) ?_
  refine RunAt.chunk 2 [⟨.ptr [14] 0 0, [([14], some (.cells [.d (.int .i64 0), .d (.int .i64 0), .d (.bool false), .d (.int .i64 0), .d (.int .i64 0), .d (.int .i64 0), .d (.int .i64 0), .d (.int .u16 0)] 0))]⟩, ⟨.tup [], [([14], some (.cells [.d (.int .i64 r_3.At), .d (.int .i64 r_3.Loc), .d (.bool r_3.Self), .d (.int .i64 r_3.Frame), .d (.int .i64 r_3.FrameN), .d (.int .i64 r_3.Target), .d (.int .i64 r_3.N), .d (.int .u16 r_3.Disp)] 0))]⟩] (by kernel_rfl) ?_
  refine RunAt.done (by kernel_rfl) ?_
  refine kS_nrm ?_
  refine Runs.seq ?_
  refine Runs.ops ?_
  refine RunAt.chunk 3 [⟨.d (.int .i64 which2), []⟩, ⟨.d (.int .i64 0), []⟩, ⟨.d (.int .i64 which2), []⟩] (by kernel_rfl) ?_
  refine RunAt.done (by kernel_rfl) ?_
  refine kS_nrm ?_
  refine Runs.seq ?_
  refine Runs.seq ?_
  refine Runs.ops ?_
  refine RunAt.chunk 1 [⟨.d (.int .i64 from1), []⟩] (by kernel_rfl) ?_
  refine RunAt.done (by kernel_rfl) ?_
  refine kS_nrm ?_
  refine Runs.block ?_
  refine Runs.seq ?_
  refine Runs.ops ?_
  refine RunAt.chunk 2 [⟨.d (.bool (from1 == 0)), []⟩, ⟨.d (.bool (from1 == 0)), []⟩] (by kernel_rfl) ?_
  refine RunAt.done (by kernel_rfl) ?_
  refine kS_nrm ?_
  cases hb_2 : ((from1 == 0) : Bool) with
  | true =>
    replace h := ite_t hb_2 h
    refine Runs.cond_t (by kernel_rfl) ?_
    refine Runs.ops ?_
    refine RunAt.chunk 2 [⟨.d (.int .i64 5), []⟩, ⟨.d (.int .i64 0), []⟩] (by kernel_rfl) ?_
    refine RunAt.done (by kernel_rfl) ?_
    refine kB_nrm ?_
    refine kS_nrm ?_
    refine Runs.canon (hansomlaw37_EmitValues_h41 x7 r_3 (IntKind.wrap .u32 x7.N) r_1.1 r_1.2 r_2.1 r_2.2 ([0, 0, 1, 2] : List Int) 5 0) (Canon.same (by kernel_rfl) (Canon.nil (by kernel_rfl))) ?_
    exact hansomlaw37_EmitValues_j41_ok v_ from_ which_ x7 r_3 (IntKind.wrap .u32 x7.N) r_1.1 r_1.2 r_2.1 r_2.2 ([0, 0, 1, 2] : List Int) 5 0 r h
  | false =>
    replace h := ite_f hb_2 h
    refine Runs.cond_f (by kernel_rfl) ?_
    refine Runs.seq ?_
    refine Runs.ops ?_
    refine RunAt.chunk 2 [⟨.d (.bool (from1 == 2)), []⟩, ⟨.d (.bool (from1 == 2)), []⟩] (by kernel_rfl) ?_
    refine RunAt.done (by kernel_rfl) ?_
    refine kS_nrm ?_
    cases hb_17 : ((from1 == 2) : Bool) with
    | true =>
      replace h := ite_t hb_17 h
      refine Runs.cond_t (by kernel_rfl) ?_
      refine Runs.ops ?_
      refine RunAt.chunk 1 [⟨.d (.int .i64 1), []⟩] (by kernel_rfl) ?_
      refine RunAt.done (by kernel_rfl) ?_
      refine kB_nrm ?_
      refine kS_nrm ?_
      refine Runs.canon (hansomlaw37_EmitValues_h41 x7 r_3 (IntKind.wrap .u32 x7.N) r_1.1 r_1.2 r_2.1 r_2.2 ([0, 0, 1, 2] : List Int) 1 which2) (Canon.same (by kernel_rfl) (Canon.nil (by kernel_rfl))) ?_
      exact hansomlaw37_EmitValues_j41_ok v_ from_ which_ x7 r_3 (IntKind.wrap .u32 x7.N) r_1.1 r_1.2 r_2.1 r_2.2 ([0, 0, 1, 2] : List Int) 1 which2 r h
    | false =>
      replace h := ite_f hb_17 h
      refine Runs.cond_f (by kernel_rfl) ?_
      refine Runs.seq ?_
      refine Runs.ops ?_
      refine RunAt.chunk 2 [⟨.d (.bool (from1 == 3)), []⟩, ⟨.d (.bool (from1 == 3)), []⟩] (by kernel_rfl) ?_
      refine RunAt.done (by kernel_rfl) ?_
      refine kS_nrm ?_
      cases hb_18 : ((from1 == 3) : Bool) with
      | true =>
        replace h := ite_t hb_18 h
        refine Runs.cond_t (by kernel_rfl) ?_
        refine Runs.ops ?_
        refine RunAt.chunk 1 [⟨.d (.int .i64 2), []⟩] (by kernel_rfl) ?_
        refine RunAt.done (by kernel_rfl) ?_
        refine kB_nrm ?_
        refine kS_nrm ?_
        refine Runs.canon (hansomlaw37_EmitValues_h41 x7 r_3 (IntKind.wrap .u32 x7.N) r_1.1 r_1.2 r_2.1 r_2.2 ([0, 0, 1, 2] : List Int) 2 which2) (Canon.same (by kernel_rfl) (Canon.nil (by kernel_rfl))) ?_
        exact hansomlaw37_EmitValues_j41_ok v_ from_ which_ x7 r_3 (IntKind.wrap .u32 x7.N) r_1.1 r_1.2 r_2.1 r_2.2 ([0, 0, 1, 2] : List Int) 2 which2 r h
      | false =>
        replace h := ite_f hb_18 h
        refine Runs.cond_f (by kernel_rfl) ?_
        refine Runs.skip ?_
        refine kB_nrm ?_
        refine kS_nrm ?_
        refine Runs.canon (hansomlaw37_EmitValues_h41 x7 r_3 (IntKind.wrap .u32 x7.N) r_1.1 r_1.2 r_2.1 r_2.2 ([0, 0, 1, 2] : List Int) 0 which2) (Canon.same (by kernel_rfl) (Canon.nil (by kernel_rfl))) ?_
        exact hansomlaw37_EmitValues_j41_ok v_ from_ which_ x7 r_3 (IntKind.wrap .u32 x7.N) r_1.1 r_1.2 r_2.1 r_2.2 ([0, 0, 1, 2] : List Int) 0 which2 r h
theorem hansomlaw37_EmitValues_ok (v_ : api_Value) (from_ : Int) (which_ : Int) (r : Bool) (h : hansomlaw37_EmitValues v_ from_ which_ = some r) : Runs L F5.body ⟨tmOf [.d (api_Value.d v_), .d (.int .i64 from_), .d (.int .i64 which_)] 0, updW (fun _ => none) []⟩ (hansomlaw37_EmitValues_Q v_ from_ which_ r) := by
  unfold hansomlaw37_EmitValues at h
  refine Runs.seq ?_
  refine Runs.ops ?_
  refine RunAt.chunk 2 [⟨.ptr [3] 0 0, [([3], some (.cells [.d (.int .i64 v_.N), .d (.int .i64 v_.From), .d (.int .i64 v_.Which), .d (.int .i64 v_.Type_), .d (.int .i64 v_.Wants), .d (.bool v_.Known)] 0))]⟩, ⟨.d (.bool false), []⟩] (by kernel_rfl) ?_
  refine RunAt.done (by kernel_rfl) ?_
  refine kS_nrm ?_
  refine Runs.seq ?_
  refine Runs.ops ?_
  refine RunAt.chunk 3 [⟨.d (api_Value.d v_), []⟩, ⟨.ptr [7] 0 0, [([7], some (.cells [.d (.int .i64 0), .d (.int .i64 0), .d (.int .i64 0), .d (.int .i64 0), .d (.int .i64 0), .d (.bool false)] 0))]⟩, ⟨.tup [], [([7], some (.cells [.d (.int .i64 v_.N), .d (.int .i64 v_.From), .d (.int .i64 v_.Which), .d (.int .i64 v_.Type_), .d (.int .i64 v_.Wants), .d (.bool v_.Known)] 0))]⟩] (by kernel_rfl) ?_
  refine RunAt.done (by kernel_rfl) ?_
  refine kS_nrm ?_
  refine Runs.seq ?_
  refine Runs.ops ?_
  refine RunAt.chunk 11 [⟨.ptr [3] 0 1, []⟩, ⟨.d (.int .i64 v_.From), []⟩, ⟨.d (.int .i64 (bitsOp .and .i64 v_.From 3)), []⟩, ⟨.ptr [3] 0 4, []⟩, ⟨.d (.int .i64 v_.Wants), []⟩, ⟨.d (.int .i64 (bitsOp .and .i64 v_.Wants 255)), []⟩, ⟨.d (.int .i64 (Int.tmod (bitsOp .and .i64 v_.Wants 255) 3)), []⟩, ⟨.ptr [7] 0 1, []⟩, ⟨.tup [], [([7], some (.cells [.d (.int .i64 v_.N), .d (.int .i64 (bitsOp .and .i64 v_.From 3)), .d (.int .i64 v_.Which), .d (.int .i64 v_.Type_), .d (.int .i64 v_.Wants), .d (.bool v_.Known)] 0))]⟩, ⟨.ptr [7] 0 4, []⟩, ⟨.tup [], [([7], some (.cells [.d (.int .i64 v_.N), .d (.int .i64 (bitsOp .and .i64 v_.From 3)), .d (.int .i64 v_.Which), .d (.int .i64 v_.Type_), .d (.int .i64 (Int.tmod (bitsOp .and .i64 v_.Wants 255) 3)), .d (.bool v_.Known)] 0))]⟩] (by kernel_rfl) ?_
  refine RunAt.done (by kernel_rfl) ?_
  refine kS_nrm ?_
  refine Runs.seq ?_
  refine Runs.seq ?_
  refine Runs.ops ?_
  refine RunAt.chunk 3 [⟨.ptr [7] 0 1, []⟩, ⟨.d (.int .i64 (bitsOp .and .i64 v_.From 3)), []⟩, ⟨.d (.bool ((bitsOp .and .i64 v_.From 3) == 0)), []⟩] (by kernel_rfl) ?_
  refine RunAt.done (by kernel_rfl) ?_
  refine kS_nrm ?_
  cases hb_1 : (((bitsOp .and .i64 v_.From 3) == 0) : Bool) with
  | true =>
    replace h := ite_t hb_1 h
    refine Runs.cond_t (by kernel_rfl) ?_
    refine Runs.ops ?_
    refine RunAt.chunk 2 [⟨.ptr [7] 0 4, []⟩, ⟨.tup [], [([7], some (.cells [.d (.int .i64 v_.N), .d (.int .i64 (bitsOp .and .i64 v_.From 3)), .d (.int .i64 v_.Which), .d (.int .i64 v_.Type_), .d (.int .i64 0), .d (.bool v_.Known)] 0))]⟩] (by kernel_rfl) ?_
    refine RunAt.done (by kernel_rfl) ?_
    refine kS_nrm ?_
    refine Runs.canon (hansomlaw37_EmitValues_h12 ({ N := v_.N, From := (bitsOp .and .i64 v_.From 3), Which := v_.Which, Type_ := v_.Type_, Wants := 0, Known := v_.Known } : api_Value) from_ which_) (Canon.nil (by kernel_rfl)) ?_
    exact hansomlaw37_EmitValues_j12_ok v_ from_ which_ ({ N := v_.N, From := (bitsOp .and .i64 v_.From 3), Which := v_.Which, Type_ := v_.Type_, Wants := 0, Known := v_.Known } : api_Value) from_ which_ r h
  | false =>
    replace h := ite_f hb_1 h
    refine Runs.cond_f (by kernel_rfl) ?_
    refine Runs.skip ?_
    refine kS_nrm ?_
    refine Runs.canon (hansomlaw37_EmitValues_h12 ({ N := v_.N, From := (bitsOp .and .i64 v_.From 3), Which := v_.Which, Type_ := v_.Type_, Wants := (Int.tmod (bitsOp .and .i64 v_.Wants 255) 3), Known := v_.Known } : api_Value) from_ which_) (Canon.nil (by kernel_rfl)) ?_
    exact hansomlaw37_EmitValues_j12_ok v_ from_ which_ ({ N := v_.N, From := (bitsOp .and .i64 v_.From 3), Which := v_.Which, Type_ := v_.Type_, Wants := (Int.tmod (bitsOp .and .i64 v_.Wants 255) 3), Known := v_.Known } : api_Value) from_ which_ r h
theorem hansomlaw37_EmitValues_L (v_ : api_Value) (from_ : Int) (which_ : Int) (r : Bool) (h : hansomlaw37_EmitValues v_ from_ which_ = some r) : L 5 [.d (api_Value.d v_), .d (.int .i64 from_), .d (.int .i64 which_)] = some (.d (.bool r), [.d (api_Value.d v_), .d (.int .i64 from_), .d (.int .i64 which_)]) := by
  obtain ⟨p, ⟨hne, hf⟩, hr⟩ := hansomlaw37_EmitValues_ok v_ from_ which_ r h
  obtain ⟨k, hk⟩ := run_of (F := F5) (args := [.d (api_Value.d v_), .d (.int .i64 from_), .d (.int .i64 which_)]) (ap := [.d (api_Value.d v_), .d (.int .i64 from_), .d (.int .i64 which_)]) (bx0 := updW (fun _ => none) []) rfl rfl (by kernel_rfl) ⟨p, ⟨hne, hf⟩, hr⟩
  exact lim_run (k := k) rfl hk
end Go.Es.Emv
