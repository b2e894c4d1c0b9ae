/- The interpreter answers as plain Lean does: part 1. No condition. -/
import Derived.Test.YtbogbgbpahonoaaSplF
import Derived.Test.YtbogbgbpahonoaaSplP
import Derived.KernelRfl
set_option linter.unusedVariables false
set_option linter.unusedSimpArgs false
set_option maxRecDepth 100000
set_option maxHeartbeats 4000000
namespace Go.Es.Spl
def size_New_Q (n_ : Int) (r : Sizes) (p : Out × St) : Prop := (∀ i, p.1 ≠ .exit i) ∧ finF F15 [.d (.int .i64 n_)] p.2 = some (.ptr [.arr false 1 (List.map D.bool r.long), .d (.bool r.grew), .d (.int .i64 r.pass)], [.d (.int .i64 n_)])
theorem size_New_ok (n_ : Int) (r : Sizes) (h : size_New n_ = some r) : Runs L F15.body ⟨tmOf [.d (.int .i64 n_)] 0, updW (fun _ => none) []⟩ (size_New_Q n_ r) := by
  unfold size_New at h
  refine Runs.seq ?_
  refine Runs.ops ?_
  refine RunAt.chunk 1 [⟨.nilp, []⟩] (by kernel_rfl) ?_
  refine RunAt.done (by kernel_rfl) ?_
  refine kS_nrm ?_
  refine Runs.seq ?_
  refine Runs.ops ?_
  refine RunAt.chunk 3 [⟨.d (.int .i64 n_), []⟩, ⟨.d (.int .i64 (mxI n_ 0)), []⟩, ⟨.d (.int .i64 (mnI (mxI n_ 0) 600)), []⟩] (by kernel_rfl) ?_
  obtain ⟨z_1, hz_1, h⟩ := bind_s h
  refine RunAt.cut (some 6) (.mkslice (.bool false) 1) [] none [.d (.int .i64 (mnI (mxI n_ 0) 600)), .d (.int .i64 (mnI (mxI n_ 0) 600))] (.ref [6] 0 0 (List.map D.bool z_1).length 1) [([6], some (.arr (List.map D.bool z_1) 0 false))] (by kernel_rfl) (by kernel_rfl) (by kernel_rfl) (cut_mk (e := D.bool) (z := false) hz_1 rfl (by kernel_rfl)) ?_
  refine RunAt.chunk 3 [⟨.mix [.ref [6] 0 0 (List.map D.bool z_1).length 1, .d (.bool false), .d (.int .i64 0)], []⟩, ⟨.ptr [8] 0 0, [([8], some (.cells [.ref [6] 0 0 (List.map D.bool z_1).length 1, .d (.bool false), .d (.int .i64 0)] 0))]⟩, ⟨.ptr [8] 0 0, []⟩] (by kernel_rfl) ?_
  refine RunAt.done (by kernel_rfl) ?_
  refine kS_nrm ?_
  refine Runs.ret ?_
  obtain rfl := Option.some.inj h
  exact ⟨Out.ret_ne, (fin_of (rs := [.ptr [8] 0 0]) (by kernel_rfl) (by kernel_rfl) (outs_ptr (by kernel_rfl) (by decide) (gcs_own (id := [6]) (v := 0) (fz := false) (es := List.map D.bool z_1) (by kernel_rfl) (by kernel_rfl) (by kernel_rfl) rfl (gcs_d (gcs_d gcs_nil))) outs_nil) (gives_cons (give_same (by kernel_rfl)) gives_nil))⟩
theorem size_New_L (n_ : Int) (r : Sizes) (h : size_New n_ = some r) : L 15 [.d (.int .i64 n_)] = some (.ptr [.arr false 1 (List.map D.bool r.long), .d (.bool r.grew), .d (.int .i64 r.pass)], [.d (.int .i64 n_)]) := by
  obtain ⟨p, ⟨hne, hf⟩, hr⟩ := size_New_ok n_ r h
  obtain ⟨k, hk⟩ := run_of (F := F15) (args := [.d (.int .i64 n_)]) (ap := [.d (.int .i64 n_)]) (bx0 := updW (fun _ => none) []) rfl rfl (by kernel_rfl) ⟨p, ⟨hne, hf⟩, hr⟩
  exact lim_run (k := k) rfl hk
def size_Sizes_Next_Q (s_ : Sizes) (r : (Bool × Int × Sizes)) (p : Out × St) : Prop := (∀ i, p.1 ≠ .exit i) ∧ finF F16 [.ptr [0] 0 0] p.2 = some (.tup [.d (.bool r.1), .d (.int .i64 r.2.1)], [.ptr [.arr false 1 (List.map D.bool r.2.2.long), .d (.bool r.2.2.grew), .d (.int .i64 r.2.2.pass)]])
theorem size_Sizes_Next_ok (s_ : Sizes) (r : (Bool × Int × Sizes)) (h : size_Sizes_Next s_ = some r) : Runs L F16.body ⟨tmOf [.ptr [0] 0 0] 0, updW (fun _ => none) [([0, 0], some (.arr (List.map D.bool s_.long) 0 false)), ([0], some (.cells [.ref [0, 0] 0 0 (List.map D.bool s_.long).length 1, .d (.bool s_.grew), .d (.int .i64 s_.pass)] 0))]⟩ (size_Sizes_Next_Q s_ r) := by
  unfold size_Sizes_Next at h
  refine Runs.seq ?_
  refine Runs.ops ?_
  refine RunAt.chunk 2 [⟨.d (.bool false), []⟩, ⟨.d (.int .i64 0), []⟩] (by kernel_rfl) ?_
  refine RunAt.done (by kernel_rfl) ?_
  refine kS_nrm ?_
  refine Runs.seq ?_
  refine Runs.seq ?_
  refine Runs.ops ?_
  refine RunAt.chunk 9 [⟨.ptr [0] 0 0, []⟩, ⟨.d (.bool false), []⟩, ⟨.d (.bool false), []⟩, ⟨.ptr [0] 0 0, []⟩, ⟨.ptr [0] 0 0, []⟩, ⟨.ptr [0] 0 2, []⟩, ⟨.d (.int .i64 s_.pass), []⟩, ⟨.d (.bool (decide (s_.pass ≥ 30))), []⟩, ⟨.d (.bool (decide (s_.pass ≥ 30))), []⟩] (by kernel_rfl) ?_
  refine RunAt.done (by kernel_rfl) ?_
  refine kS_nrm ?_
  cases hb_1 : ((decide (s_.pass ≥ 30)) : Bool) with
  | true =>
    replace h := ite_t hb_1 h
    refine Runs.cond_t (by kernel_rfl) ?_
    refine Runs.seq ?_
    refine Runs.ops ?_
    refine RunAt.chunk 2 [⟨.d (.bool false), []⟩, ⟨.d (.int .i64 360), []⟩] (by kernel_rfl) ?_
    refine RunAt.done (by kernel_rfl) ?_
    refine kS_nrm ?_
    refine Runs.ret ?_
    refine kS_ret ?_
    obtain rfl := Option.some.inj h
    exact ⟨Out.ret_ne, (fin_of (rs := [.d (.bool false), .d (.int .i64 360)]) (by kernel_rfl) (by kernel_rfl) (outs_d (outs_d outs_nil)) (gives_cons (give_ptr (by kernel_rfl) (by kernel_rfl) (gcs_own (id := [0, 0]) (v := 0) (fz := false) (es := List.map D.bool s_.long) (by kernel_rfl) (by kernel_rfl) (by kernel_rfl) rfl (gcs_d (gcs_d gcs_nil)))) gives_nil))⟩
  | false =>
    replace h := ite_f hb_1 h
    refine Runs.cond_f (by kernel_rfl) ?_
    refine Runs.skip ?_
    refine kS_nrm ?_
    refine Runs.seq ?_
    refine Runs.ops ?_
    refine RunAt.chunk 5 [⟨.ptr [0] 0 0, []⟩, ⟨.ptr [0] 0 0, []⟩, ⟨.ptr [0] 0 1, []⟩, ⟨.d (.bool s_.grew), []⟩, ⟨.d (.bool s_.grew), []⟩] (by kernel_rfl) ?_
    refine RunAt.done (by kernel_rfl) ?_
    refine kS_nrm ?_
    refine Runs.seq ?_
    refine Runs.ops ?_
    refine RunAt.chunk 4 [⟨.ptr [0] 0 0, []⟩, ⟨.ptr [0] 0 0, []⟩, ⟨.ptr [0] 0 1, []⟩, ⟨.tup [], [([0], some (.cells [.ref [0, 0] 0 0 (List.map D.bool s_.long).length 1, .d (.bool false), .d (.int .i64 s_.pass)] 0))]⟩] (by kernel_rfl) ?_
    refine RunAt.done (by kernel_rfl) ?_
    refine kS_nrm ?_
    refine Runs.seq ?_
    refine Runs.ops ?_
    refine RunAt.chunk 8 [⟨.ptr [0] 0 0, []⟩, ⟨.ptr [0] 0 0, []⟩, ⟨.ptr [0] 0 2, []⟩, ⟨.d (.int .i64 s_.pass), []⟩, ⟨.d (.int .i64 (IntKind.wrap .i64 (s_.pass + 1))), []⟩, ⟨.ptr [0] 0 0, []⟩, ⟨.ptr [0] 0 2, []⟩, ⟨.tup [], [([0], some (.cells [.ref [0, 0] 0 0 (List.map D.bool s_.long).length 1, .d (.bool false), .d (.int .i64 (IntKind.wrap .i64 (s_.pass + 1)))] 0))]⟩] (by kernel_rfl) ?_
    refine RunAt.done (by kernel_rfl) ?_
    refine kS_nrm ?_
    refine Runs.seq ?_
    refine Runs.ops ?_
    refine RunAt.chunk 3 [⟨.d (.bool s_.grew), []⟩, ⟨.d (.bool s_.grew), []⟩, ⟨.d (.int .i64 0), []⟩] (by kernel_rfl) ?_
    refine RunAt.done (by kernel_rfl) ?_
    refine kS_nrm ?_
    refine Runs.ret ?_
    obtain rfl := Option.some.inj h
    exact ⟨Out.ret_ne, (fin_of (rs := [.d (.bool s_.grew), .d (.int .i64 0)]) (by kernel_rfl) (by kernel_rfl) (outs_d (outs_d outs_nil)) (gives_cons (give_ptr (by kernel_rfl) (by kernel_rfl) (gcs_own (id := [0, 0]) (v := 0) (fz := false) (es := List.map D.bool s_.long) (by kernel_rfl) (by kernel_rfl) (by kernel_rfl) rfl (gcs_d (gcs_d gcs_nil)))) gives_nil))⟩
theorem size_Sizes_Next_L (s_ : Sizes) (r : (Bool × Int × Sizes)) (h : size_Sizes_Next s_ = some r) : L 16 [.ptr [.arr false 1 (List.map D.bool s_.long), .d (.bool s_.grew), .d (.int .i64 s_.pass)]] = some (.tup [.d (.bool r.1), .d (.int .i64 r.2.1)], [.ptr [.arr false 1 (List.map D.bool r.2.2.long), .d (.bool r.2.2.grew), .d (.int .i64 r.2.2.pass)]]) := by
  obtain ⟨p, ⟨hne, hf⟩, hr⟩ := size_Sizes_Next_ok s_ r h
  obtain ⟨k, hk⟩ := run_of (F := F16) (args := [.ptr [.arr false 1 (List.map D.bool s_.long), .d (.bool s_.grew), .d (.int .i64 s_.pass)]]) (ap := [.ptr [0] 0 0]) (bx0 := updW (fun _ => none) [([0, 0], some (.arr (List.map D.bool s_.long) 0 false)), ([0], some (.cells [.ref [0, 0] 0 0 (List.map D.bool s_.long).length 1, .d (.bool s_.grew), .d (.int .i64 s_.pass)] 0))]) rfl rfl (by kernel_rfl) ⟨p, ⟨hne, hf⟩, hr⟩
  exact lim_run (k := k) rfl hk
def size_Sizes_Grow_Q (s_ : Sizes) (n_ : Int) (r : (Bool × Sizes)) (p : Out × St) : Prop := (∀ i, p.1 ≠ .exit i) ∧ finF F17 [.ptr [0] 0 0, .d (.int .i64 n_)] p.2 = some (.d (.bool r.1), [.ptr [.arr false 1 (List.map D.bool r.2.long), .d (.bool r.2.grew), .d (.int .i64 r.2.pass)], .d (.int .i64 n_)])
theorem size_Sizes_Grow_ok (s_ : Sizes) (n_ : Int) (r : (Bool × Sizes)) (h : size_Sizes_Grow s_ n_ = some r) : Runs L F17.body ⟨tmOf [.ptr [0] 0 0, .d (.int .i64 n_)] 0, updW (fun _ => none) [([0, 0], some (.arr (List.map D.bool s_.long) 0 false)), ([0], some (.cells [.ref [0, 0] 0 0 (List.map D.bool s_.long).length 1, .d (.bool s_.grew), .d (.int .i64 s_.pass)] 0))]⟩ (size_Sizes_Grow_Q s_ n_ r) := by
  unfold size_Sizes_Grow at h
  refine Runs.seq ?_
  refine Runs.ops ?_
  refine RunAt.chunk 1 [⟨.d (.bool false), []⟩] (by kernel_rfl) ?_
  refine RunAt.done (by kernel_rfl) ?_
  refine kS_nrm ?_
  refine Runs.seq ?_
  refine Runs.seq ?_
  refine Runs.ops ?_
  refine RunAt.chunk 7 [⟨.ptr [0] 0 0, []⟩, ⟨.d (.bool false), []⟩, ⟨.d (.bool false), []⟩, ⟨.d (.int .i64 n_), []⟩, ⟨.d (.bool (decide (n_ < 0))), []⟩, ⟨.d (.bool (decide (n_ < 0))), []⟩, ⟨.d (.bool (decide (n_ < 0))), []⟩] (by kernel_rfl) ?_
  cases hb_1 : ((decide (n_ < 0)) : Bool) with
  | true =>
    replace h := ite_t hb_1 h
    refine RunAt.chunk 17 [⟨.tup [], []⟩, ⟨.tup [], []⟩, ⟨.tup [], []⟩, ⟨.tup [], []⟩, ⟨.tup [], []⟩, ⟨.tup [], []⟩, ⟨.tup [], []⟩, ⟨.d (.bool true), []⟩, ⟨.d (.bool true), []⟩, ⟨.tup [], []⟩, ⟨.tup [], []⟩, ⟨.tup [], []⟩, ⟨.tup [], []⟩, ⟨.tup [], []⟩, ⟨.tup [], []⟩, ⟨.tup [], []⟩, ⟨.d (.bool true), []⟩] (by kernel_rfl) ?_
    refine RunAt.done (by kernel_rfl) ?_
    refine kS_nrm ?_
    refine Runs.cond_t (by kernel_rfl) ?_
    refine Runs.seq ?_
    refine Runs.ops ?_
    refine RunAt.chunk 1 [⟨.d (.bool false), []⟩] (by kernel_rfl) ?_
    refine RunAt.done (by kernel_rfl) ?_
    refine kS_nrm ?_
    refine Runs.ret ?_
    refine kS_ret ?_
    obtain rfl := Option.some.inj h
    exact ⟨Out.ret_ne, (fin_of (rs := [.d (.bool false)]) (by kernel_rfl) (by kernel_rfl) (outs_d outs_nil) (gives_cons (give_ptr (by kernel_rfl) (by kernel_rfl) (gcs_own (id := [0, 0]) (v := 0) (fz := false) (es := List.map D.bool s_.long) (by kernel_rfl) (by kernel_rfl) (by kernel_rfl) rfl (gcs_d (gcs_d gcs_nil)))) (gives_cons (give_same (by kernel_rfl)) gives_nil)))⟩
  | false =>
    replace h := ite_f hb_1 h
    refine RunAt.chunk 5 [⟨.d (.int .i64 n_), []⟩, ⟨.ptr [0] 0 0, []⟩, ⟨.ptr [0] 0 0, []⟩, ⟨.ptr [0] 0 0, []⟩, ⟨.ref [0, 0] 0 0 (List.map D.bool s_.long).length 1, []⟩] (by kernel_rfl) ?_
    refine RunAt.cut (some 17) .lenL [] none [.ref [0, 0] 0 0 (List.map D.bool s_.long).length 1] (.d (.int .i64 (s_.long.length : Int))) [] (by kernel_rfl) (by kernel_rfl) (by kernel_rfl) (cut_lenR (e := D.bool) s_.long rfl) ?_
    refine RunAt.chunk 3 [⟨.d (.bool (decide (n_ ≥ (s_.long.length : Int)))), []⟩, ⟨.d (.bool (decide (n_ ≥ (s_.long.length : Int)))), []⟩, ⟨.d (.bool (decide (n_ ≥ (s_.long.length : Int)))), []⟩] (by kernel_rfl) ?_
    cases hb_2 : ((decide (n_ ≥ (s_.long.length : Int))) : Bool) with
    | true =>
      replace h := ite_t hb_2 h
      refine RunAt.chunk 8 [⟨.tup [], []⟩, ⟨.tup [], []⟩, ⟨.tup [], []⟩, ⟨.tup [], []⟩, ⟨.tup [], []⟩, ⟨.tup [], []⟩, ⟨.tup [], []⟩, ⟨.d (.bool true), []⟩] (by kernel_rfl) ?_
      refine RunAt.done (by kernel_rfl) ?_
      refine kS_nrm ?_
      refine Runs.cond_t (by kernel_rfl) ?_
      refine Runs.seq ?_
      refine Runs.ops ?_
      refine RunAt.chunk 1 [⟨.d (.bool false), []⟩] (by kernel_rfl) ?_
      refine RunAt.done (by kernel_rfl) ?_
      refine kS_nrm ?_
      refine Runs.ret ?_
      refine kS_ret ?_
      obtain rfl := Option.some.inj h
      exact ⟨Out.ret_ne, (fin_of (rs := [.d (.bool false)]) (by kernel_rfl) (by kernel_rfl) (outs_d outs_nil) (gives_cons (give_ptr (by kernel_rfl) (by kernel_rfl) (gcs_own (id := [0, 0]) (v := 0) (fz := false) (es := List.map D.bool s_.long) (by kernel_rfl) (by kernel_rfl) (by kernel_rfl) rfl (gcs_d (gcs_d gcs_nil)))) (gives_cons (give_same (by kernel_rfl)) gives_nil)))⟩
    | false =>
      replace h := ite_f hb_2 h
      refine RunAt.chunk 5 [⟨.ptr [0] 0 0, []⟩, ⟨.ptr [0] 0 0, []⟩, ⟨.ptr [0] 0 0, []⟩, ⟨.ref [0, 0] 0 0 (List.map D.bool s_.long).length 1, []⟩, ⟨.d (.int .i64 n_), []⟩] (by kernel_rfl) ?_
      obtain ⟨z_1, hz_1, h⟩ := bind_s h
      refine RunAt.cut (some 26) (.iaddrS 1) [] none [.ref [0, 0] 0 0 (List.map D.bool s_.long).length 1, .d (.int .i64 n_)] (.eref [0, 0] 0 (0 + (n_).toNat) 0) [] (by kernel_rfl) (by kernel_rfl) (by kernel_rfl) (cut_atR (e := D.bool) (l := s_.long) hz_1 rfl) ?_
      refine RunAt.cut (some 27) (.load none) [] none [.eref [0, 0] 0 (0 + (n_).toNat) 0] (.d (.bool z_1)) [] (by kernel_rfl) (by kernel_rfl) (by kernel_rfl) (cut_loadR (e := D.bool) (l := s_.long) (fz := false) (y := z_1) (by kernel_rfl) hz_1 (by kernel_rfl) (by kernel_rfl)) ?_
      refine RunAt.chunk 1 [⟨.d (.bool z_1), []⟩] (by kernel_rfl) ?_
      refine RunAt.done (by kernel_rfl) ?_
      refine kS_nrm ?_
      cases hb_3 : (z_1 : Bool) with
      | true =>
        replace h := ite_t hb_3 h
        refine Runs.cond_t (by kernel_rfl) ?_
        refine Runs.seq ?_
        refine Runs.ops ?_
        refine RunAt.chunk 1 [⟨.d (.bool false), []⟩] (by kernel_rfl) ?_
        refine RunAt.done (by kernel_rfl) ?_
        refine kS_nrm ?_
        refine Runs.ret ?_
        refine kS_ret ?_
        obtain rfl := Option.some.inj h
        exact ⟨Out.ret_ne, (fin_of (rs := [.d (.bool false)]) (by kernel_rfl) (by kernel_rfl) (outs_d outs_nil) (gives_cons (give_ptr (by kernel_rfl) (by kernel_rfl) (gcs_own (id := [0, 0]) (v := 0) (fz := false) (es := List.map D.bool s_.long) (by kernel_rfl) (by kernel_rfl) (by kernel_rfl) rfl (gcs_d (gcs_d gcs_nil)))) (gives_cons (give_same (by kernel_rfl)) gives_nil)))⟩
      | false =>
        replace h := ite_f hb_3 h
        refine Runs.cond_f (by kernel_rfl) ?_
        refine Runs.skip ?_
        refine kS_nrm ?_
        refine Runs.seq ?_
        refine Runs.ops ?_
        refine RunAt.chunk 6 [⟨.ptr [0] 0 0, []⟩, ⟨.ptr [0] 0 0, []⟩, ⟨.ptr [0] 0 0, []⟩, ⟨.ref [0, 0] 0 0 (List.map D.bool s_.long).length 1, []⟩, ⟨.d (.int .i64 n_), []⟩, ⟨.ptr [0] 0 0, []⟩] (by kernel_rfl) ?_
        obtain ⟨z_2, hz_2, h⟩ := bind_s h
        refine RunAt.cut (some 35) (.iaddrS 1) [] none [.ref [0, 0] 0 0 (List.map D.bool s_.long).length 1, .d (.int .i64 n_)] (.eref [0, 0] 0 (0 + (n_).toNat) 0) [] (by kernel_rfl) (by kernel_rfl) (by kernel_rfl) (cut_atR (e := D.bool) (l := s_.long) hz_2 rfl) ?_
        refine RunAt.cut none (.store 1) [] none [.eref [0, 0] 0 (0 + (n_).toNat) 0, .d (.bool true)] (.tup []) [([0, 0], some (.arr (List.map D.bool (List.set s_.long (n_).toNat true)) 0 false))] (by kernel_rfl) (by kernel_rfl) (by kernel_rfl) (cut_setR (e := D.bool) (l := s_.long) (y := z_2) (y' := true) (ds := [.bool true]) (by kernel_rfl) hz_2 (by kernel_rfl) (by kernel_rfl) (by kernel_rfl) (by kernel_rfl)) ?_
        refine RunAt.chunk 3 [⟨.ptr [0] 0 0, []⟩, ⟨.ptr [0] 0 1, []⟩, ⟨.tup [], [([0], some (.cells [.ref [0, 0] 0 0 (List.map D.bool s_.long).length 1, .d (.bool true), .d (.int .i64 s_.pass)] 0))]⟩] (by kernel_rfl) ?_
        refine RunAt.done (by kernel_rfl) ?_
        refine kS_nrm ?_
        refine Runs.seq ?_
        refine Runs.ops ?_
        refine RunAt.chunk 1 [⟨.d (.bool true), []⟩] (by kernel_rfl) ?_
        refine RunAt.done (by kernel_rfl) ?_
        refine kS_nrm ?_
        refine Runs.ret ?_
        obtain rfl := Option.some.inj h
        exact ⟨Out.ret_ne, (fin_of (rs := [.d (.bool true)]) (by kernel_rfl) (by kernel_rfl) (outs_d outs_nil) (gives_cons (give_ptr (by kernel_rfl) (by kernel_rfl) (gcs_own (id := [0, 0]) (v := 0) (fz := false) (es := List.map D.bool (List.set s_.long (n_).toNat true)) (by kernel_rfl) (by kernel_rfl) (by kernel_rfl) (by simp only [List.length_map, List.length_set] : (List.map D.bool s_.long).length = (List.map D.bool (List.set s_.long (n_).toNat true)).length) (gcs_d (gcs_d gcs_nil)))) (gives_cons (give_same (by kernel_rfl)) gives_nil)))⟩
theorem size_Sizes_Grow_L (s_ : Sizes) (n_ : Int) (r : (Bool × Sizes)) (h : size_Sizes_Grow s_ n_ = some r) : L 17 [.ptr [.arr false 1 (List.map D.bool s_.long), .d (.bool s_.grew), .d (.int .i64 s_.pass)], .d (.int .i64 n_)] = some (.d (.bool r.1), [.ptr [.arr false 1 (List.map D.bool r.2.long), .d (.bool r.2.grew), .d (.int .i64 r.2.pass)], .d (.int .i64 n_)]) := by
  obtain ⟨p, ⟨hne, hf⟩, hr⟩ := size_Sizes_Grow_ok s_ n_ r h
  obtain ⟨k, hk⟩ := run_of (F := F17) (args := [.ptr [.arr false 1 (List.map D.bool s_.long), .d (.bool s_.grew), .d (.int .i64 s_.pass)], .d (.int .i64 n_)]) (ap := [.ptr [0] 0 0, .d (.int .i64 n_)]) (bx0 := updW (fun _ => none) [([0, 0], some (.arr (List.map D.bool s_.long) 0 false)), ([0], some (.cells [.ref [0, 0] 0 0 (List.map D.bool s_.long).length 1, .d (.bool s_.grew), .d (.int .i64 s_.pass)] 0))]) rfl rfl (by kernel_rfl) ⟨p, ⟨hne, hf⟩, hr⟩
  exact lim_run (k := k) rfl hk
def size_Sizes_Long_Q (s_ : Sizes) (n_ : Int) (r : Bool) (p : Out × St) : Prop := (∀ i, p.1 ≠ .exit i) ∧ finF F18 [.ptr [0] 0 0, .d (.int .i64 n_)] p.2 = some (.d (.bool r), [.ptr [.arr false 1 (List.map D.bool s_.long), .d (.bool s_.grew), .d (.int .i64 s_.pass)], .d (.int .i64 n_)])
theorem size_Sizes_Long_ok (s_ : Sizes) (n_ : Int) (r : Bool) (h : size_Sizes_Long s_ n_ = some r) : Runs L F18.body ⟨tmOf [.ptr [0] 0 0, .d (.int .i64 n_)] 0, updW (fun _ => none) [([0, 0], some (.arr (List.map D.bool s_.long) 0 false)), ([0], some (.cells [.ref [0, 0] 0 0 (List.map D.bool s_.long).length 1, .d (.bool s_.grew), .d (.int .i64 s_.pass)] 0))]⟩ (size_Sizes_Long_Q s_ n_ r) := by
  unfold size_Sizes_Long at h
  refine Runs.seq ?_
  refine Runs.ops ?_
  refine RunAt.chunk 1 [⟨.d (.bool false), []⟩] (by kernel_rfl) ?_
  refine RunAt.done (by kernel_rfl) ?_
  refine kS_nrm ?_
  refine Runs.seq ?_
  refine Runs.ops ?_
  refine RunAt.chunk 7 [⟨.ptr [0] 0 0, []⟩, ⟨.d (.bool true), []⟩, ⟨.d (.bool true), []⟩, ⟨.d (.int .i64 n_), []⟩, ⟨.d (.bool (decide (n_ ≥ 0))), []⟩, ⟨.d (.bool (decide (n_ ≥ 0))), []⟩, ⟨.d (.bool (decide (n_ ≥ 0))), []⟩] (by kernel_rfl) ?_
  cases hb_1 : ((decide (n_ ≥ 0)) : Bool) with
  | true =>
    replace h := ite_t hb_1 h
    refine RunAt.chunk 5 [⟨.d (.int .i64 n_), []⟩, ⟨.ptr [0] 0 0, []⟩, ⟨.ptr [0] 0 0, []⟩, ⟨.ptr [0] 0 0, []⟩, ⟨.ref [0, 0] 0 0 (List.map D.bool s_.long).length 1, []⟩] (by kernel_rfl) ?_
    refine RunAt.cut (some 17) .lenL [] none [.ref [0, 0] 0 0 (List.map D.bool s_.long).length 1] (.d (.int .i64 (s_.long.length : Int))) [] (by kernel_rfl) (by kernel_rfl) (by kernel_rfl) (cut_lenR (e := D.bool) s_.long rfl) ?_
    refine RunAt.chunk 3 [⟨.d (.bool (decide (n_ < (s_.long.length : Int)))), []⟩, ⟨.d (.bool (decide (n_ < (s_.long.length : Int)))), []⟩, ⟨.d (.bool (decide (n_ < (s_.long.length : Int)))), []⟩] (by kernel_rfl) ?_
    cases hb_2 : ((decide (n_ < (s_.long.length : Int))) : Bool) with
    | true =>
      replace h := ite_t hb_2 h
      refine RunAt.chunk 5 [⟨.ptr [0] 0 0, []⟩, ⟨.ptr [0] 0 0, []⟩, ⟨.ptr [0] 0 0, []⟩, ⟨.ref [0, 0] 0 0 (List.map D.bool s_.long).length 1, []⟩, ⟨.d (.int .i64 n_), []⟩] (by kernel_rfl) ?_
      obtain ⟨z_1, hz_1, h⟩ := bind_s h
      refine RunAt.cut (some 26) (.iaddrS 1) [] none [.ref [0, 0] 0 0 (List.map D.bool s_.long).length 1, .d (.int .i64 n_)] (.eref [0, 0] 0 (0 + (n_).toNat) 0) [] (by kernel_rfl) (by kernel_rfl) (by kernel_rfl) (cut_atR (e := D.bool) (l := s_.long) hz_1 rfl) ?_
      refine RunAt.cut (some 27) (.load none) [] none [.eref [0, 0] 0 (0 + (n_).toNat) 0] (.d (.bool z_1)) [] (by kernel_rfl) (by kernel_rfl) (by kernel_rfl) (cut_loadR (e := D.bool) (l := s_.long) (fz := false) (y := z_1) (by kernel_rfl) hz_1 (by kernel_rfl) (by kernel_rfl)) ?_
      refine RunAt.chunk 2 [⟨.d (.bool z_1), []⟩, ⟨.d (.bool z_1), []⟩] (by kernel_rfl) ?_
      refine RunAt.done (by kernel_rfl) ?_
      refine kS_nrm ?_
      refine Runs.ret ?_
      obtain rfl := Option.some.inj h
      exact ⟨Out.ret_ne, (fin_of (rs := [.d (.bool z_1)]) (by kernel_rfl) (by kernel_rfl) (outs_d outs_nil) (gives_cons (give_ptr (by kernel_rfl) (by kernel_rfl) (gcs_own (id := [0, 0]) (v := 0) (fz := false) (es := List.map D.bool s_.long) (by kernel_rfl) (by kernel_rfl) (by kernel_rfl) rfl (gcs_d (gcs_d gcs_nil)))) (gives_cons (give_same (by kernel_rfl)) gives_nil)))⟩
    | false =>
      replace h := ite_f hb_2 h
      refine RunAt.chunk 9 [⟨.tup [], []⟩, ⟨.tup [], []⟩, ⟨.tup [], []⟩, ⟨.tup [], []⟩, ⟨.tup [], []⟩, ⟨.tup [], []⟩, ⟨.tup [], []⟩, ⟨.d (.bool false), []⟩, ⟨.d (.bool false), []⟩] (by kernel_rfl) ?_
      refine RunAt.done (by kernel_rfl) ?_
      refine kS_nrm ?_
      refine Runs.ret ?_
      obtain rfl := Option.some.inj h
      exact ⟨Out.ret_ne, (fin_of (rs := [.d (.bool false)]) (by kernel_rfl) (by kernel_rfl) (outs_d outs_nil) (gives_cons (give_ptr (by kernel_rfl) (by kernel_rfl) (gcs_own (id := [0, 0]) (v := 0) (fz := false) (es := List.map D.bool s_.long) (by kernel_rfl) (by kernel_rfl) (by kernel_rfl) rfl (gcs_d (gcs_d gcs_nil)))) (gives_cons (give_same (by kernel_rfl)) gives_nil)))⟩
  | false =>
    replace h := ite_f hb_1 h
    refine RunAt.chunk 18 [⟨.tup [], []⟩, ⟨.tup [], []⟩, ⟨.tup [], []⟩, ⟨.tup [], []⟩, ⟨.tup [], []⟩, ⟨.tup [], []⟩, ⟨.tup [], []⟩, ⟨.d (.bool false), []⟩, ⟨.d (.bool false), []⟩, ⟨.tup [], []⟩, ⟨.tup [], []⟩, ⟨.tup [], []⟩, ⟨.tup [], []⟩, ⟨.tup [], []⟩, ⟨.tup [], []⟩, ⟨.tup [], []⟩, ⟨.d (.bool false), []⟩, ⟨.d (.bool false), []⟩] (by kernel_rfl) ?_
    refine RunAt.done (by kernel_rfl) ?_
    refine kS_nrm ?_
    refine Runs.ret ?_
    obtain rfl := Option.some.inj h
    exact ⟨Out.ret_ne, (fin_of (rs := [.d (.bool false)]) (by kernel_rfl) (by kernel_rfl) (outs_d outs_nil) (gives_cons (give_ptr (by kernel_rfl) (by kernel_rfl) (gcs_own (id := [0, 0]) (v := 0) (fz := false) (es := List.map D.bool s_.long) (by kernel_rfl) (by kernel_rfl) (by kernel_rfl) rfl (gcs_d (gcs_d gcs_nil)))) (gives_cons (give_same (by kernel_rfl)) gives_nil)))⟩
theorem size_Sizes_Long_L (s_ : Sizes) (n_ : Int) (r : Bool) (h : size_Sizes_Long s_ n_ = some r) : L 18 [.ptr [.arr false 1 (List.map D.bool s_.long), .d (.bool s_.grew), .d (.int .i64 s_.pass)], .d (.int .i64 n_)] = some (.d (.bool r), [.ptr [.arr false 1 (List.map D.bool s_.long), .d (.bool s_.grew), .d (.int .i64 s_.pass)], .d (.int .i64 n_)]) := by
  obtain ⟨p, ⟨hne, hf⟩, hr⟩ := size_Sizes_Long_ok s_ n_ r h
  obtain ⟨k, hk⟩ := run_of (F := F18) (args := [.ptr [.arr false 1 (List.map D.bool s_.long), .d (.bool s_.grew), .d (.int .i64 s_.pass)], .d (.int .i64 n_)]) (ap := [.ptr [0] 0 0, .d (.int .i64 n_)]) (bx0 := updW (fun _ => none) [([0, 0], some (.arr (List.map D.bool s_.long) 0 false)), ([0], some (.cells [.ref [0, 0] 0 0 (List.map D.bool s_.long).length 1, .d (.bool s_.grew), .d (.int .i64 s_.pass)] 0))]) rfl rfl (by kernel_rfl) ⟨p, ⟨hne, hf⟩, hr⟩
  exact lim_run (k := k) rfl hk
def size_Sizes_Count_h8 (s0 : Sizes) (n3 : Int) (i4 : Int) (v_0_0 : Nat) : St := ⟨tab [(0, .ptr [0] 0 0), (3, .d (.int .i64 n3)), (4, .d (.int .i64 i4))], tabB [([0], some (.cells [.ref [0, 0] v_0_0 0 (List.map D.bool s0.long).length 1, .d (.bool s0.grew), .d (.int .i64 s0.pass)] 0)), ([0, 0], some (.arr (List.map D.bool s0.long) v_0_0 false))]⟩
def size_Sizes_Count_h23 (s0 : Sizes) (n3 : Int) (v_0_0 : Nat) : St := ⟨tab [(3, .d (.int .i64 n3))], tabB [([0], some (.cells [.ref [0, 0] v_0_0 0 (List.map D.bool s0.long).length 1, .d (.bool s0.grew), .d (.int .i64 s0.pass)] 0)), ([0, 0], some (.arr (List.map D.bool s0.long) v_0_0 false))]⟩
def size_Sizes_Count_Q (s_ : Sizes) (r : Int) (p : Out × St) : Prop := (∀ i, p.1 ≠ .exit i) ∧ finF F19 [.ptr [0] 0 0] p.2 = some (.d (.int .i64 r), [.ptr [.arr false 1 (List.map D.bool s_.long), .d (.bool s_.grew), .d (.int .i64 s_.pass)]])
def size_Sizes_Count_P8 (s_ : Sizes) (s0 : Sizes) (e : Int) (p : Out × St) : Prop := p.1 = .exit 0 ∧ ∃ g : Nat, Canon [] [3] [[0], [0, 0]] p.2 (size_Sizes_Count_h23 s0 e g)
theorem size_Sizes_Count_l8_ok (s_ : Sizes) (s0 : Sizes) (n3 : Int) (i4 : Int) (v_0_0 : Nat) (r : (Lp (Int × Int) Int)) (h : size_Sizes_Count_l8 s0 n3 i4 = some r) : Runs L F19l8 (size_Sizes_Count_h8 s0 n3 i4 v_0_0) (LQ [] [0, 3, 4] [[0], [0, 0]] (fun (x : (Int × Int)) (g : Nat) => size_Sizes_Count_h8 s0 x.1 x.2 g) (size_Sizes_Count_P8 s_ s0) r) := by
  unfold size_Sizes_Count_l8 at h
  refine Runs.seq ?_
  refine Runs.seq ?_
  refine Runs.ops ?_
  refine RunAt.chunk 8 [⟨.ptr [0] 0 0, []⟩, ⟨.d (.bool true), []⟩, ⟨.d (.bool true), []⟩, ⟨.d (.int .i64 i4), []⟩, ⟨.ptr [0] 0 0, []⟩, ⟨.ptr [0] 0 0, []⟩, ⟨.ptr [0] 0 0, []⟩, ⟨.ref [0, 0] v_0_0 0 (List.map D.bool s0.long).length 1, []⟩] (by kernel_rfl) ?_
  refine RunAt.cut (some 13) .lenL [] none [.ref [0, 0] v_0_0 0 (List.map D.bool s0.long).length 1] (.d (.int .i64 (s0.long.length : Int))) [] (by kernel_rfl) (by kernel_rfl) (by kernel_rfl) (cut_lenR (e := D.bool) s0.long rfl) ?_
  refine RunAt.chunk 2 [⟨.d (.bool (decide (i4 < (s0.long.length : Int)))), []⟩, ⟨.d (.bool (decide (i4 < (s0.long.length : Int)))), []⟩] (by kernel_rfl) ?_
  refine RunAt.done (by kernel_rfl) ?_
  refine kS_nrm ?_
  cases hb_1 : ((decide (i4 < (s0.long.length : Int))) : Bool) with
  | true =>
    replace h := ite_t hb_1 h
    refine Runs.cond_t (by kernel_rfl) ?_
    refine Runs.skip ?_
    refine kS_nrm ?_
    refine Runs.seq ?_
    refine Runs.block ?_
    refine Runs.seq ?_
    refine Runs.ops ?_
    refine RunAt.chunk 5 [⟨.ptr [0] 0 0, []⟩, ⟨.ptr [0] 0 0, []⟩, ⟨.ptr [0] 0 0, []⟩, ⟨.ref [0, 0] v_0_0 0 (List.map D.bool s0.long).length 1, []⟩, ⟨.d (.int .i64 i4), []⟩] (by kernel_rfl) ?_
    obtain ⟨z_1, hz_1, h⟩ := bind_s h
    refine RunAt.cut (some 23) (.iaddrS 1) [] none [.ref [0, 0] v_0_0 0 (List.map D.bool s0.long).length 1, .d (.int .i64 i4)] (.eref [0, 0] v_0_0 (0 + (i4).toNat) 0) [] (by kernel_rfl) (by kernel_rfl) (by kernel_rfl) (cut_atR (e := D.bool) (l := s0.long) hz_1 rfl) ?_
    refine RunAt.cut (some 24) (.load none) [] none [.eref [0, 0] v_0_0 (0 + (i4).toNat) 0] (.d (.bool z_1)) [] (by kernel_rfl) (by kernel_rfl) (by kernel_rfl) (cut_loadR (e := D.bool) (l := s0.long) (fz := false) (y := z_1) (by kernel_rfl) hz_1 (by kernel_rfl) (by kernel_rfl)) ?_
    refine RunAt.done (by kernel_rfl) ?_
    refine kS_nrm ?_
    cases hb_2 : (z_1 : Bool) with
    | true =>
      replace h := ite_t hb_2 h
      refine Runs.cond_t (by kernel_rfl) ?_
      refine Runs.ops ?_
      refine RunAt.chunk 3 [⟨.d (.int .i64 n3), []⟩, ⟨.d (.int .i64 (IntKind.wrap .i64 (n3 + 1))), []⟩, ⟨.d (.int .i64 (IntKind.wrap .i64 (n3 + 1))), []⟩] (by kernel_rfl) ?_
      refine RunAt.done (by kernel_rfl) ?_
      refine kB_nrm ?_
      refine kS_nrm ?_
      refine Runs.ops ?_
      refine RunAt.chunk 3 [⟨.d (.int .i64 i4), []⟩, ⟨.d (.int .i64 (IntKind.wrap .i64 (i4 + 1))), []⟩, ⟨.d (.int .i64 (IntKind.wrap .i64 (i4 + 1))), []⟩] (by kernel_rfl) ?_
      refine RunAt.done (by kernel_rfl) ?_
      obtain rfl := Option.some.inj h
      exact ⟨rfl, v_0_0, (Canon.nil (by kernel_rfl))⟩
    | false =>
      replace h := ite_f hb_2 h
      refine Runs.cond_f (by kernel_rfl) ?_
      refine Runs.skip ?_
      refine kB_nrm ?_
      refine kS_nrm ?_
      refine Runs.ops ?_
      refine RunAt.chunk 3 [⟨.d (.int .i64 i4), []⟩, ⟨.d (.int .i64 (IntKind.wrap .i64 (i4 + 1))), []⟩, ⟨.d (.int .i64 (IntKind.wrap .i64 (i4 + 1))), []⟩] (by kernel_rfl) ?_
      refine RunAt.done (by kernel_rfl) ?_
      obtain rfl := Option.some.inj h
      exact ⟨rfl, v_0_0, (Canon.nil (by kernel_rfl))⟩
  | false =>
    replace h := ite_f hb_1 h
    refine Runs.cond_f (by kernel_rfl) ?_
    refine Runs.exit ?_
    refine kS_exit ?_
    obtain rfl := Option.some.inj h
    exact ⟨nofun, rfl, v_0_0, (Canon.nil (by kernel_rfl))⟩
theorem size_Sizes_Count_ok (s_ : Sizes) (r : Int) (h : size_Sizes_Count s_ = some r) : Runs L F19.body ⟨tmOf [.ptr [0] 0 0] 0, updW (fun _ => none) [([0, 0], some (.arr (List.map D.bool s_.long) 0 false)), ([0], some (.cells [.ref [0, 0] 0 0 (List.map D.bool s_.long).length 1, .d (.bool s_.grew), .d (.int .i64 s_.pass)] 0))]⟩ (size_Sizes_Count_Q s_ r) := by
  unfold size_Sizes_Count at h
  refine Runs.seq ?_
  refine Runs.ops ?_
  refine RunAt.chunk 1 [⟨.d (.int .i64 0), []⟩] (by kernel_rfl) ?_
  refine RunAt.done (by kernel_rfl) ?_
  refine kS_nrm ?_
  refine Runs.seq ?_
  refine Runs.ops ?_
  refine RunAt.chunk 1 [⟨.d (.int .i64 0), []⟩] (by kernel_rfl) ?_
  refine RunAt.done (by kernel_rfl) ?_
  refine kS_nrm ?_
  refine Runs.seq ?_
  refine Runs.seq ?_
  refine Runs.ops ?_
  refine RunAt.chunk 1 [⟨.d (.int .i64 0), []⟩] (by kernel_rfl) ?_
  refine RunAt.done (by kernel_rfl) ?_
  refine kS_nrm ?_
  refine Runs.block ?_
  obtain ⟨e_1, he_1, h⟩ := bind_s h
  refine Runs.loop (fun x : (Int × Int) => size_Sizes_Count_l8 s_ x.1 x.2) (fun (x : (Int × Int)) (g : Nat) => size_Sizes_Count_h8 s_ x.1 x.2 g) (size_Sizes_Count_P8 s_ s_) (fun x g r hr => size_Sizes_Count_l8_ok s_ s_ x.1 x.2 g r hr) 0 he_1 (Canon.nil (by kernel_rfl)) ?_
  rintro ⟨o, s⟩ hp
  obtain ⟨ho, g_1, hk_1⟩ := hp
  have ho' : o = .exit 0 := ho
  subst ho'
  refine kB_hit ?_
  refine kS_nrm ?_
  refine Runs.canon _ hk_1 ?_
  refine Runs.seq ?_
  refine Runs.ops ?_
  refine RunAt.chunk 2 [⟨.d (.int .i64 e_1), []⟩, ⟨.d (.int .i64 e_1), []⟩] (by kernel_rfl) ?_
  refine RunAt.done (by kernel_rfl) ?_
  refine kS_nrm ?_
  refine Runs.ret ?_
  obtain rfl := Option.some.inj h
  exact ⟨Out.ret_ne, (fin_of (rs := [.d (.int .i64 e_1)]) (by kernel_rfl) (by kernel_rfl) (outs_d outs_nil) (gives_cons (give_ptr (by kernel_rfl) (by kernel_rfl) (gcs_own (id := [0, 0]) (v := g_1) (fz := false) (es := List.map D.bool s_.long) (by kernel_rfl) (by kernel_rfl) (by kernel_rfl) rfl (gcs_d (gcs_d gcs_nil)))) gives_nil))⟩
theorem size_Sizes_Count_L (s_ : Sizes) (r : Int) (h : size_Sizes_Count s_ = some r) : L 19 [.ptr [.arr false 1 (List.map D.bool s_.long), .d (.bool s_.grew), .d (.int .i64 s_.pass)]] = some (.d (.int .i64 r), [.ptr [.arr false 1 (List.map D.bool s_.long), .d (.bool s_.grew), .d (.int .i64 s_.pass)]]) := by
  obtain ⟨p, ⟨hne, hf⟩, hr⟩ := size_Sizes_Count_ok s_ r h
  obtain ⟨k, hk⟩ := run_of (F := F19) (args := [.ptr [.arr false 1 (List.map D.bool s_.long), .d (.bool s_.grew), .d (.int .i64 s_.pass)]]) (ap := [.ptr [0] 0 0]) (bx0 := updW (fun _ => none) [([0, 0], some (.arr (List.map D.bool s_.long) 0 false)), ([0], some (.cells [.ref [0, 0] 0 0 (List.map D.bool s_.long).length 1, .d (.bool s_.grew), .d (.int .i64 s_.pass)] 0))]) rfl rfl (by kernel_rfl) ⟨p, ⟨hne, hf⟩, hr⟩
  exact lim_run (k := k) rfl hk
def size_Sizes_Pass_Q (s_ : Sizes) (r : Int) (p : Out × St) : Prop := (∀ i, p.1 ≠ .exit i) ∧ finF F20 [.ptr [0] 0 0] p.2 = some (.d (.int .i64 r), [.ptr [.arr false 1 (List.map D.bool s_.long), .d (.bool s_.grew), .d (.int .i64 s_.pass)]])
theorem size_Sizes_Pass_ok (s_ : Sizes) (r : Int) (h : size_Sizes_Pass s_ = some r) : Runs L F20.body ⟨tmOf [.ptr [0] 0 0] 0, updW (fun _ => none) [([0, 0], some (.arr (List.map D.bool s_.long) 0 false)), ([0], some (.cells [.ref [0, 0] 0 0 (List.map D.bool s_.long).length 1, .d (.bool s_.grew), .d (.int .i64 s_.pass)] 0))]⟩ (size_Sizes_Pass_Q s_ r) := by
  unfold size_Sizes_Pass at h
  refine Runs.seq ?_
  refine Runs.ops ?_
  refine RunAt.chunk 1 [⟨.d (.int .i64 0), []⟩] (by kernel_rfl) ?_
  refine RunAt.done (by kernel_rfl) ?_
  refine kS_nrm ?_
  refine Runs.seq ?_
  refine Runs.seq ?_
  refine Runs.ops ?_
  refine RunAt.chunk 2 [⟨.ptr [0] 0 0, []⟩, ⟨.d (.bool false), []⟩] (by kernel_rfl) ?_
  refine RunAt.done (by kernel_rfl) ?_
  refine kS_nrm ?_
  refine Runs.cond_f (by kernel_rfl) ?_
  refine Runs.skip ?_
  refine kS_nrm ?_
  refine Runs.seq ?_
  refine Runs.ops ?_
  refine RunAt.chunk 5 [⟨.ptr [0] 0 0, []⟩, ⟨.ptr [0] 0 0, []⟩, ⟨.ptr [0] 0 2, []⟩, ⟨.d (.int .i64 s_.pass), []⟩, ⟨.d (.int .i64 s_.pass), []⟩] (by kernel_rfl) ?_
  refine RunAt.done (by kernel_rfl) ?_
  refine kS_nrm ?_
  refine Runs.ret ?_
  obtain rfl := Option.some.inj h
  exact ⟨Out.ret_ne, (fin_of (rs := [.d (.int .i64 s_.pass)]) (by kernel_rfl) (by kernel_rfl) (outs_d outs_nil) (gives_cons (give_ptr (by kernel_rfl) (by kernel_rfl) (gcs_own (id := [0, 0]) (v := 0) (fz := false) (es := List.map D.bool s_.long) (by kernel_rfl) (by kernel_rfl) (by kernel_rfl) rfl (gcs_d (gcs_d gcs_nil)))) gives_nil))⟩
theorem size_Sizes_Pass_L (s_ : Sizes) (r : Int) (h : size_Sizes_Pass s_ = some r) : L 20 [.ptr [.arr false 1 (List.map D.bool s_.long), .d (.bool s_.grew), .d (.int .i64 s_.pass)]] = some (.d (.int .i64 r), [.ptr [.arr false 1 (List.map D.bool s_.long), .d (.bool s_.grew), .d (.int .i64 s_.pass)]]) := by
  obtain ⟨p, ⟨hne, hf⟩, hr⟩ := size_Sizes_Pass_ok s_ r h
  obtain ⟨k, hk⟩ := run_of (F := F20) (args := [.ptr [.arr false 1 (List.map D.bool s_.long), .d (.bool s_.grew), .d (.int .i64 s_.pass)]]) (ap := [.ptr [0] 0 0]) (bx0 := updW (fun _ => none) [([0, 0], some (.arr (List.map D.bool s_.long) 0 false)), ([0], some (.cells [.ref [0, 0] 0 0 (List.map D.bool s_.long).length 1, .d (.bool s_.grew), .d (.int .i64 s_.pass)] 0))]) rfl rfl (by kernel_rfl) ⟨p, ⟨hne, hf⟩, hr⟩
  exact lim_run (k := k) rfl hk
def hansomlaw36_awake_Q  (r : Bool) (p : Out × St) : Prop := (∀ i, p.1 ≠ .exit i) ∧ finF F21 [] p.2 = some (.d (.bool r), [])
theorem hansomlaw36_awake_ok  (r : Bool) (h : hansomlaw36_awake = some r) : Runs L F21.body ⟨tmOf [] 0, updW (fun _ => none) []⟩ (hansomlaw36_awake_Q  r) := by
  unfold hansomlaw36_awake at h
  refine Runs.seq ?_
  refine Runs.ops ?_
  refine RunAt.chunk 1 [⟨.d (.bool false), []⟩] (by kernel_rfl) ?_
  refine RunAt.done (by kernel_rfl) ?_
  refine kS_nrm ?_
  refine Runs.seq ?_
  refine Runs.ops ?_
  obtain ⟨r_1, hr_1, h⟩ := bind_s h
  have hc_1 := size_New_L 2 r_1 hr_1
  refine RunAt.cut (some 4) (.callf 15) [] none [.d (.int .i64 2)] (.ptr [4] 0 0) [([0, 4], some (.arr (List.map D.bool r_1.long) 0 false)), ([4], some (.cells [.ref [0, 4] 0 0 (List.map D.bool r_1.long).length 1, .d (.bool r_1.grew), .d (.int .i64 r_1.pass)] 0))] (by kernel_rfl) (by kernel_rfl) (by kernel_rfl) (cut_call (call_of (ws := []) (us := []) (by kernel_rfl) (gives_cons (ws := []) (give_same (by kernel_rfl)) gives_nil) hc_1 (by kernel_rfl) (by kernel_rfl))) ?_
  refine RunAt.chunk 1 [⟨.ptr [4] 0 0, []⟩] (by kernel_rfl) ?_
  refine RunAt.done (by kernel_rfl) ?_
  refine kS_nrm ?_
  refine Runs.seq ?_
  refine Runs.ops ?_
  refine RunAt.chunk 1 [⟨.ptr [4] 0 0, []⟩] (by kernel_rfl) ?_
  obtain ⟨r_2, hr_2, h⟩ := bind_s h
  have hc_2 := size_Sizes_Next_L r_1 r_2 hr_2
  refine RunAt.cut (some 7) (.callf 16) [] none [.ptr [4] 0 0] (.tup [.d (.bool r_2.1), .d (.int .i64 r_2.2.1)]) [([0, 4], some (.arr (List.map D.bool []) 1 false)), ([0, 4], some (.arr (List.map D.bool r_2.2.2.long) 2 false)), ([4], some (.cells [.ref [0, 4] 2 0 (List.map D.bool r_2.2.2.long).length 1, .d (.bool r_2.2.2.grew), .d (.int .i64 r_2.2.2.pass)] 0))] (by kernel_rfl) (by kernel_rfl) (by kernel_rfl) (cut_call (call_of (ws := [([0, 4], some (.arr (List.map D.bool []) 1 false))]) (us := [([0, 4], some (.arr (List.map D.bool []) 1 false)), ([0, 4], some (.arr (List.map D.bool r_2.2.2.long) 2 false)), ([4], some (.cells [.ref [0, 4] 2 0 (List.map D.bool r_2.2.2.long).length 1, .d (.bool r_2.2.2.grew), .d (.int .i64 r_2.2.2.pass)] 0))]) (by kernel_rfl) (gives_cons (ws := [([0, 4], some (.arr (List.map D.bool []) 1 false))]) (give_ptr (by kernel_rfl) (by kernel_rfl) (gcs_own (id := [0, 4]) (v := 0) (fz := false) (es := List.map D.bool r_1.long) (by kernel_rfl) (by kernel_rfl) (by kernel_rfl) rfl (gcs_d (gcs_d gcs_nil)))) gives_nil) hc_2 (by kernel_rfl) (by kernel_rfl))) ?_
  refine RunAt.chunk 5 [⟨.tup [.d (.bool r_2.1), .d (.int .i64 r_2.2.1)], []⟩, ⟨.d (.bool r_2.1), []⟩, ⟨.d (.int .i64 r_2.2.1), []⟩, ⟨.d (.bool r_2.1), []⟩, ⟨.d (.int .i64 r_2.2.1), []⟩] (by kernel_rfl) ?_
  refine RunAt.done (by kernel_rfl) ?_
  refine kS_nrm ?_
  refine Runs.seq ?_
  refine Runs.ops ?_
  refine RunAt.chunk 1 [⟨.ptr [4] 0 0, []⟩] (by kernel_rfl) ?_
  obtain ⟨r_3, hr_3, h⟩ := bind_s h
  have hc_3 := size_Sizes_Grow_L r_2.2.2 1 r_3 hr_3
  refine RunAt.cut (some 11) (.callf 17) [] none [.ptr [4] 0 0, .d (.int .i64 1)] (.d (.bool r_3.1)) [([0, 4], some (.arr (List.map D.bool []) 3 false)), ([0, 4], some (.arr (List.map D.bool r_3.2.long) 4 false)), ([4], some (.cells [.ref [0, 4] 4 0 (List.map D.bool r_3.2.long).length 1, .d (.bool r_3.2.grew), .d (.int .i64 r_3.2.pass)] 0))] (by kernel_rfl) (by kernel_rfl) (by kernel_rfl) (cut_call (call_of (ws := [([0, 4], some (.arr (List.map D.bool []) 3 false))]) (us := [([0, 4], some (.arr (List.map D.bool []) 3 false)), ([0, 4], some (.arr (List.map D.bool r_3.2.long) 4 false)), ([4], some (.cells [.ref [0, 4] 4 0 (List.map D.bool r_3.2.long).length 1, .d (.bool r_3.2.grew), .d (.int .i64 r_3.2.pass)] 0))]) (by kernel_rfl) (gives_cons (ws := [([0, 4], some (.arr (List.map D.bool []) 3 false))]) (give_ptr (by kernel_rfl) (by kernel_rfl) (gcs_own (id := [0, 4]) (v := 2) (fz := false) (es := List.map D.bool r_2.2.2.long) (by kernel_rfl) (by kernel_rfl) (by kernel_rfl) rfl (gcs_d (gcs_d gcs_nil)))) (gives_cons (ws := []) (give_same (by kernel_rfl)) gives_nil)) hc_3 (by kernel_rfl) (by kernel_rfl))) ?_
  refine RunAt.chunk 1 [⟨.d (.bool r_3.1), []⟩] (by kernel_rfl) ?_
  cases hb_1 : (r_3.1 : Bool) with
  | true =>
    replace h := ite_t hb_1 h
    refine RunAt.chunk 1 [⟨.ptr [4] 0 0, []⟩] (by kernel_rfl) ?_
    obtain ⟨r_4, hr_4, h⟩ := bind_s h
    have hc_4 := size_Sizes_Grow_L r_3.2 1 r_4 hr_4
    refine RunAt.cut (some 14) (.callf 17) [] none [.ptr [4] 0 0, .d (.int .i64 1)] (.d (.bool r_4.1)) [([0, 4], some (.arr (List.map D.bool []) 5 false)), ([0, 4], some (.arr (List.map D.bool r_4.2.long) 6 false)), ([4], some (.cells [.ref [0, 4] 6 0 (List.map D.bool r_4.2.long).length 1, .d (.bool r_4.2.grew), .d (.int .i64 r_4.2.pass)] 0))] (by kernel_rfl) (by kernel_rfl) (by kernel_rfl) (cut_call (call_of (ws := [([0, 4], some (.arr (List.map D.bool []) 5 false))]) (us := [([0, 4], some (.arr (List.map D.bool []) 5 false)), ([0, 4], some (.arr (List.map D.bool r_4.2.long) 6 false)), ([4], some (.cells [.ref [0, 4] 6 0 (List.map D.bool r_4.2.long).length 1, .d (.bool r_4.2.grew), .d (.int .i64 r_4.2.pass)] 0))]) (by kernel_rfl) (gives_cons (ws := [([0, 4], some (.arr (List.map D.bool []) 5 false))]) (give_ptr (by kernel_rfl) (by kernel_rfl) (gcs_own (id := [0, 4]) (v := 4) (fz := false) (es := List.map D.bool r_3.2.long) (by kernel_rfl) (by kernel_rfl) (by kernel_rfl) rfl (gcs_d (gcs_d gcs_nil)))) (gives_cons (ws := []) (give_same (by kernel_rfl)) gives_nil)) hc_4 (by kernel_rfl) (by kernel_rfl))) ?_
    refine RunAt.chunk 3 [⟨.d (.bool (!r_4.1)), []⟩, ⟨.d (.bool (!r_4.1)), []⟩, ⟨.d (.bool (!r_4.1)), []⟩] (by kernel_rfl) ?_
    cases hb_2 : ((!r_4.1) : Bool) with
    | true =>
      replace h := ite_t hb_2 h
      refine RunAt.chunk 1 [⟨.ptr [4] 0 0, []⟩] (by kernel_rfl) ?_
      obtain ⟨r_5, hr_5, h⟩ := bind_s h
      have hc_5 := size_Sizes_Long_L r_4.2 1 r_5 hr_5
      refine RunAt.cut (some 19) (.callf 18) [] none [.ptr [4] 0 0, .d (.int .i64 1)] (.d (.bool r_5)) [([0, 4], some (.arr (List.map D.bool []) 7 false)), ([0, 4], some (.arr (List.map D.bool r_4.2.long) 8 false)), ([4], some (.cells [.ref [0, 4] 8 0 (List.map D.bool r_4.2.long).length 1, .d (.bool r_4.2.grew), .d (.int .i64 r_4.2.pass)] 0))] (by kernel_rfl) (by kernel_rfl) (by kernel_rfl) (cut_call (call_of (ws := [([0, 4], some (.arr (List.map D.bool []) 7 false))]) (us := [([0, 4], some (.arr (List.map D.bool []) 7 false)), ([0, 4], some (.arr (List.map D.bool r_4.2.long) 8 false)), ([4], some (.cells [.ref [0, 4] 8 0 (List.map D.bool r_4.2.long).length 1, .d (.bool r_4.2.grew), .d (.int .i64 r_4.2.pass)] 0))]) (by kernel_rfl) (gives_cons (ws := [([0, 4], some (.arr (List.map D.bool []) 7 false))]) (give_ptr (by kernel_rfl) (by kernel_rfl) (gcs_own (id := [0, 4]) (v := 6) (fz := false) (es := List.map D.bool r_4.2.long) (by kernel_rfl) (by kernel_rfl) (by kernel_rfl) rfl (gcs_d (gcs_d gcs_nil)))) (gives_cons (ws := []) (give_same (by kernel_rfl)) gives_nil)) hc_5 (by kernel_rfl) (by kernel_rfl))) ?_
      refine RunAt.chunk 2 [⟨.d (.bool r_5), []⟩, ⟨.d (.bool r_5), []⟩] (by kernel_rfl) ?_
      cases hb_3 : (r_5 : Bool) with
      | true =>
        replace h := ite_t hb_3 h
        refine RunAt.chunk 1 [⟨.ptr [4] 0 0, []⟩] (by kernel_rfl) ?_
        obtain ⟨r_6, hr_6, h⟩ := bind_s h
        have hc_6 := size_Sizes_Long_L r_4.2 0 r_6 hr_6
        refine RunAt.cut (some 23) (.callf 18) [] none [.ptr [4] 0 0, .d (.int .i64 0)] (.d (.bool r_6)) [([0, 4], some (.arr (List.map D.bool []) 9 false)), ([0, 4], some (.arr (List.map D.bool r_4.2.long) 10 false)), ([4], some (.cells [.ref [0, 4] 10 0 (List.map D.bool r_4.2.long).length 1, .d (.bool r_4.2.grew), .d (.int .i64 r_4.2.pass)] 0))] (by kernel_rfl) (by kernel_rfl) (by kernel_rfl) (cut_call (call_of (ws := [([0, 4], some (.arr (List.map D.bool []) 9 false))]) (us := [([0, 4], some (.arr (List.map D.bool []) 9 false)), ([0, 4], some (.arr (List.map D.bool r_4.2.long) 10 false)), ([4], some (.cells [.ref [0, 4] 10 0 (List.map D.bool r_4.2.long).length 1, .d (.bool r_4.2.grew), .d (.int .i64 r_4.2.pass)] 0))]) (by kernel_rfl) (gives_cons (ws := [([0, 4], some (.arr (List.map D.bool []) 9 false))]) (give_ptr (by kernel_rfl) (by kernel_rfl) (gcs_own (id := [0, 4]) (v := 8) (fz := false) (es := List.map D.bool r_4.2.long) (by kernel_rfl) (by kernel_rfl) (by kernel_rfl) rfl (gcs_d (gcs_d gcs_nil)))) (gives_cons (ws := []) (give_same (by kernel_rfl)) gives_nil)) hc_6 (by kernel_rfl) (by kernel_rfl))) ?_
        refine RunAt.chunk 3 [⟨.d (.bool (!r_6)), []⟩, ⟨.d (.bool (!r_6)), []⟩, ⟨.d (.bool (!r_6)), []⟩] (by kernel_rfl) ?_
        cases hb_4 : ((!r_6) : Bool) with
        | true =>
          replace h := ite_t hb_4 h
          refine RunAt.chunk 1 [⟨.ptr [4] 0 0, []⟩] (by kernel_rfl) ?_
          obtain ⟨r_7, hr_7, h⟩ := bind_s h
          have hc_7 := size_Sizes_Count_L r_4.2 r_7 hr_7
          refine RunAt.cut (some 28) (.callf 19) [] none [.ptr [4] 0 0] (.d (.int .i64 r_7)) [([0, 4], some (.arr (List.map D.bool []) 11 false)), ([0, 4], some (.arr (List.map D.bool r_4.2.long) 12 false)), ([4], some (.cells [.ref [0, 4] 12 0 (List.map D.bool r_4.2.long).length 1, .d (.bool r_4.2.grew), .d (.int .i64 r_4.2.pass)] 0))] (by kernel_rfl) (by kernel_rfl) (by kernel_rfl) (cut_call (call_of (ws := [([0, 4], some (.arr (List.map D.bool []) 11 false))]) (us := [([0, 4], some (.arr (List.map D.bool []) 11 false)), ([0, 4], some (.arr (List.map D.bool r_4.2.long) 12 false)), ([4], some (.cells [.ref [0, 4] 12 0 (List.map D.bool r_4.2.long).length 1, .d (.bool r_4.2.grew), .d (.int .i64 r_4.2.pass)] 0))]) (by kernel_rfl) (gives_cons (ws := [([0, 4], some (.arr (List.map D.bool []) 11 false))]) (give_ptr (by kernel_rfl) (by kernel_rfl) (gcs_own (id := [0, 4]) (v := 10) (fz := false) (es := List.map D.bool r_4.2.long) (by kernel_rfl) (by kernel_rfl) (by kernel_rfl) rfl (gcs_d (gcs_d gcs_nil)))) gives_nil) hc_7 (by kernel_rfl) (by kernel_rfl))) ?_
          refine RunAt.chunk 3 [⟨.d (.bool (r_7 == 1)), []⟩, ⟨.d (.bool (r_7 == 1)), []⟩, ⟨.d (.bool (r_7 == 1)), []⟩] (by kernel_rfl) ?_
          cases hb_5 : ((r_7 == 1) : Bool) with
          | true =>
            replace h := ite_t hb_5 h
            refine RunAt.chunk 4 [⟨.d (.bool r_2.1), []⟩, ⟨.d (.bool (!r_2.1)), []⟩, ⟨.d (.bool (!r_2.1)), []⟩, ⟨.d (.bool (!r_2.1)), []⟩] (by kernel_rfl) ?_
            cases hb_6 : ((!r_2.1) : Bool) with
            | true =>
              replace h := ite_t hb_6 h
              refine RunAt.chunk 4 [⟨.d (.int .i64 r_2.2.1), []⟩, ⟨.d (.bool (r_2.2.1 == 0)), []⟩, ⟨.d (.bool (r_2.2.1 == 0)), []⟩, ⟨.d (.bool (r_2.2.1 == 0)), []⟩] (by kernel_rfl) ?_
              cases hb_7 : ((r_2.2.1 == 0) : Bool) with
              | true =>
                replace h := ite_t hb_7 h
                refine RunAt.chunk 1 [⟨.ptr [4] 0 0, []⟩] (by kernel_rfl) ?_
                obtain ⟨r_8, hr_8, h⟩ := bind_s h
                have hc_8 := size_Sizes_Pass_L r_4.2 r_8 hr_8
                refine RunAt.cut (some 41) (.callf 20) [] none [.ptr [4] 0 0] (.d (.int .i64 r_8)) [([0, 4], some (.arr (List.map D.bool []) 13 false)), ([0, 4], some (.arr (List.map D.bool r_4.2.long) 14 false)), ([4], some (.cells [.ref [0, 4] 14 0 (List.map D.bool r_4.2.long).length 1, .d (.bool r_4.2.grew), .d (.int .i64 r_4.2.pass)] 0))] (by kernel_rfl) (by kernel_rfl) (by kernel_rfl) (cut_call (call_of (ws := [([0, 4], some (.arr (List.map D.bool []) 13 false))]) (us := [([0, 4], some (.arr (List.map D.bool []) 13 false)), ([0, 4], some (.arr (List.map D.bool r_4.2.long) 14 false)), ([4], some (.cells [.ref [0, 4] 14 0 (List.map D.bool r_4.2.long).length 1, .d (.bool r_4.2.grew), .d (.int .i64 r_4.2.pass)] 0))]) (by kernel_rfl) (gives_cons (ws := [([0, 4], some (.arr (List.map D.bool []) 13 false))]) (give_ptr (by kernel_rfl) (by kernel_rfl) (gcs_own (id := [0, 4]) (v := 12) (fz := false) (es := List.map D.bool r_4.2.long) (by kernel_rfl) (by kernel_rfl) (by kernel_rfl) rfl (gcs_d (gcs_d gcs_nil)))) gives_nil) hc_8 (by kernel_rfl) (by kernel_rfl))) ?_
                refine RunAt.chunk 3 [⟨.d (.bool (r_8 == 1)), []⟩, ⟨.d (.bool (r_8 == 1)), []⟩, ⟨.d (.bool (r_8 == 1)), []⟩] (by kernel_rfl) ?_
                refine RunAt.done (by kernel_rfl) ?_
                refine kS_nrm ?_
                refine Runs.ret ?_
                obtain rfl := Option.some.inj h
                exact ⟨Out.ret_ne, (by kernel_rfl)⟩
              | false =>
                replace h := ite_f hb_7 h
                refine RunAt.chunk 5 [⟨.tup [], []⟩, ⟨.tup [], []⟩, ⟨.tup [], []⟩, ⟨.d (.bool false), []⟩, ⟨.d (.bool false), []⟩] (by kernel_rfl) ?_
                refine RunAt.done (by kernel_rfl) ?_
                refine kS_nrm ?_
                refine Runs.ret ?_
                obtain rfl := Option.some.inj h
                exact ⟨Out.ret_ne, (by kernel_rfl)⟩
            | false =>
              replace h := ite_f hb_6 h
              refine RunAt.chunk 9 [⟨.tup [], []⟩, ⟨.tup [], []⟩, ⟨.d (.bool false), []⟩, ⟨.d (.bool false), []⟩, ⟨.tup [], []⟩, ⟨.tup [], []⟩, ⟨.tup [], []⟩, ⟨.d (.bool false), []⟩, ⟨.d (.bool false), []⟩] (by kernel_rfl) ?_
              refine RunAt.done (by kernel_rfl) ?_
              refine kS_nrm ?_
              refine Runs.ret ?_
              obtain rfl := Option.some.inj h
              exact ⟨Out.ret_ne, (by kernel_rfl)⟩
          | false =>
            replace h := ite_f hb_5 h
            refine RunAt.chunk 13 [⟨.tup [], []⟩, ⟨.tup [], []⟩, ⟨.d (.bool false), []⟩, ⟨.d (.bool false), []⟩, ⟨.tup [], []⟩, ⟨.tup [], []⟩, ⟨.d (.bool false), []⟩, ⟨.d (.bool false), []⟩, ⟨.tup [], []⟩, ⟨.tup [], []⟩, ⟨.tup [], []⟩, ⟨.d (.bool false), []⟩, ⟨.d (.bool false), []⟩] (by kernel_rfl) ?_
            refine RunAt.done (by kernel_rfl) ?_
            refine kS_nrm ?_
            refine Runs.ret ?_
            obtain rfl := Option.some.inj h
            exact ⟨Out.ret_ne, (by kernel_rfl)⟩
        | false =>
          replace h := ite_f hb_4 h
          refine RunAt.chunk 18 [⟨.tup [], []⟩, ⟨.tup [], []⟩, ⟨.tup [], []⟩, ⟨.d (.bool false), []⟩, ⟨.d (.bool false), []⟩, ⟨.tup [], []⟩, ⟨.tup [], []⟩, ⟨.d (.bool false), []⟩, ⟨.d (.bool false), []⟩, ⟨.tup [], []⟩, ⟨.tup [], []⟩, ⟨.d (.bool false), []⟩, ⟨.d (.bool false), []⟩, ⟨.tup [], []⟩, ⟨.tup [], []⟩, ⟨.tup [], []⟩, ⟨.d (.bool false), []⟩, ⟨.d (.bool false), []⟩] (by kernel_rfl) ?_
          refine RunAt.done (by kernel_rfl) ?_
          refine kS_nrm ?_
          refine Runs.ret ?_
          obtain rfl := Option.some.inj h
          exact ⟨Out.ret_ne, (by kernel_rfl)⟩
      | false =>
        replace h := ite_f hb_3 h
        refine RunAt.chunk 23 [⟨.tup [], []⟩, ⟨.tup [], []⟩, ⟨.tup [], []⟩, ⟨.d (.bool false), []⟩, ⟨.d (.bool false), []⟩, ⟨.tup [], []⟩, ⟨.tup [], []⟩, ⟨.tup [], []⟩, ⟨.d (.bool false), []⟩, ⟨.d (.bool false), []⟩, ⟨.tup [], []⟩, ⟨.tup [], []⟩, ⟨.d (.bool false), []⟩, ⟨.d (.bool false), []⟩, ⟨.tup [], []⟩, ⟨.tup [], []⟩, ⟨.d (.bool false), []⟩, ⟨.d (.bool false), []⟩, ⟨.tup [], []⟩, ⟨.tup [], []⟩, ⟨.tup [], []⟩, ⟨.d (.bool false), []⟩, ⟨.d (.bool false), []⟩] (by kernel_rfl) ?_
        refine RunAt.done (by kernel_rfl) ?_
        refine kS_nrm ?_
        refine Runs.ret ?_
        obtain rfl := Option.some.inj h
        exact ⟨Out.ret_ne, (by kernel_rfl)⟩
    | false =>
      replace h := ite_f hb_2 h
      refine RunAt.chunk 27 [⟨.tup [], []⟩, ⟨.tup [], []⟩, ⟨.d (.bool false), []⟩, ⟨.d (.bool false), []⟩, ⟨.tup [], []⟩, ⟨.tup [], []⟩, ⟨.tup [], []⟩, ⟨.d (.bool false), []⟩, ⟨.d (.bool false), []⟩, ⟨.tup [], []⟩, ⟨.tup [], []⟩, ⟨.tup [], []⟩, ⟨.d (.bool false), []⟩, ⟨.d (.bool false), []⟩, ⟨.tup [], []⟩, ⟨.tup [], []⟩, ⟨.d (.bool false), []⟩, ⟨.d (.bool false), []⟩, ⟨.tup [], []⟩, ⟨.tup [], []⟩, ⟨.d (.bool false), []⟩, ⟨.d (.bool false), []⟩, ⟨.tup [], []⟩, ⟨.tup [], []⟩, ⟨.tup [], []⟩, ⟨.d (.bool false), []⟩, ⟨.d (.bool false), []⟩] (by kernel_rfl) ?_
      refine RunAt.done (by kernel_rfl) ?_
      refine kS_nrm ?_
      refine Runs.ret ?_
      obtain rfl := Option.some.inj h
      exact ⟨Out.ret_ne, (by kernel_rfl)⟩
  | false =>
    replace h := ite_f hb_1 h
    refine RunAt.chunk 32 [⟨.tup [], []⟩, ⟨.tup [], []⟩, ⟨.tup [], []⟩, ⟨.d (.bool false), []⟩, ⟨.d (.bool false), []⟩, ⟨.tup [], []⟩, ⟨.tup [], []⟩, ⟨.d (.bool false), []⟩, ⟨.d (.bool false), []⟩, ⟨.tup [], []⟩, ⟨.tup [], []⟩, ⟨.tup [], []⟩, ⟨.d (.bool false), []⟩, ⟨.d (.bool false), []⟩, ⟨.tup [], []⟩, ⟨.tup [], []⟩, ⟨.tup [], []⟩, ⟨.d (.bool false), []⟩, ⟨.d (.bool false), []⟩, ⟨.tup [], []⟩, ⟨.tup [], []⟩, ⟨.d (.bool false), []⟩, ⟨.d (.bool false), []⟩, ⟨.tup [], []⟩, ⟨.tup [], []⟩, ⟨.d (.bool false), []⟩, ⟨.d (.bool false), []⟩, ⟨.tup [], []⟩, ⟨.tup [], []⟩, ⟨.tup [], []⟩, ⟨.d (.bool false), []⟩, ⟨.d (.bool false), []⟩] (by kernel_rfl) ?_
    refine RunAt.done (by kernel_rfl) ?_
    refine kS_nrm ?_
    refine Runs.ret ?_
    obtain rfl := Option.some.inj h
    exact ⟨Out.ret_ne, (by kernel_rfl)⟩
theorem hansomlaw36_awake_L  (r : Bool) (h : hansomlaw36_awake = some r) : L 21 [] = some (.d (.bool r), []) := by
  obtain ⟨p, ⟨hne, hf⟩, hr⟩ := hansomlaw36_awake_ok  r h
  obtain ⟨k, hk⟩ := run_of (F := F21) (args := []) (ap := []) (bx0 := updW (fun _ => none) []) rfl rfl (by kernel_rfl) ⟨p, ⟨hne, hf⟩, hr⟩
  exact lim_run (k := k) rfl hk
def hansomlaw36_SizePlays_h10 (b_24 : Sizes) (b_26 : (List Bool)) (l1 : (List Int)) (k5 : Int) (grew8 : Bool) (passes9 : Int) (i10 : Int) (v_0_24 : Nat) (v_26 : Nat) : St := ⟨tab [(1, .d (.sl (List.map (D.int .i64) l1))), (5, .d (.int .i64 k5)), (6, .ptr [24] 0 0), (7, .ref [26] v_26 0 (List.map D.bool b_26).length 1), (8, .d (.bool grew8)), (9, .d (.int .i64 passes9)), (10, .d (.int .i64 i10))], tabB [([24], some (.cells [.ref [0, 24] v_0_24 0 (List.map D.bool b_24.long).length 1, .d (.bool b_24.grew), .d (.int .i64 b_24.pass)] 0)), ([0, 24], some (.arr (List.map D.bool b_24.long) v_0_24 false)), ([26], some (.arr (List.map D.bool b_26) v_26 false))]⟩
def hansomlaw36_SizePlays_h61 (b_24 : Sizes) (b_26 : (List Bool)) (l1 : (List Int)) (k5 : Int) (grew8 : Bool) (passes9 : Int) (i10 : Int) (at13 : Int) (v_0_24 : Nat) (v_26 : Nat) : St := ⟨tab [(1, .d (.sl (List.map (D.int .i64) l1))), (5, .d (.int .i64 k5)), (6, .ptr [24] 0 0), (7, .ref [26] v_26 0 (List.map D.bool b_26).length 1), (8, .d (.bool grew8)), (9, .d (.int .i64 passes9)), (10, .d (.int .i64 i10)), (13, .d (.int .i64 at13))], tabB [([24], some (.cells [.ref [0, 24] v_0_24 0 (List.map D.bool b_24.long).length 1, .d (.bool b_24.grew), .d (.int .i64 b_24.pass)] 0)), ([0, 24], some (.arr (List.map D.bool b_24.long) v_0_24 false)), ([26], some (.arr (List.map D.bool b_26) v_26 false))]⟩
def hansomlaw36_SizePlays_h63 (b_24 : Sizes) (b_26 : (List Bool)) (l1 : (List Int)) (k5 : Int) (grew8 : Bool) (passes9 : Int) (i10 : Int) (at13 : Int) (in14 : Bool) (v_0_24 : Nat) (v_26 : Nat) : St := ⟨tab [(1, .d (.sl (List.map (D.int .i64) l1))), (5, .d (.int .i64 k5)), (6, .ptr [24] 0 0), (7, .ref [26] v_26 0 (List.map D.bool b_26).length 1), (8, .d (.bool grew8)), (9, .d (.int .i64 passes9)), (10, .d (.int .i64 i10)), (13, .d (.int .i64 at13)), (14, .d (.bool in14))], tabB [([24], some (.cells [.ref [0, 24] v_0_24 0 (List.map D.bool b_24.long).length 1, .d (.bool b_24.grew), .d (.int .i64 b_24.pass)] 0)), ([0, 24], some (.arr (List.map D.bool b_24.long) v_0_24 false)), ([26], some (.arr (List.map D.bool b_26) v_26 false))]⟩
def hansomlaw36_SizePlays_h65 (b_24 : Sizes) (b_26 : (List Bool)) (l1 : (List Int)) (k5 : Int) (grew8 : Bool) (passes9 : Int) (i10 : Int) (at13 : Int) (in14 : Bool) (want15 : Bool) (v_0_24 : Nat) (v_26 : Nat) : St := ⟨tab [(1, .d (.sl (List.map (D.int .i64) l1))), (5, .d (.int .i64 k5)), (6, .ptr [24] 0 0), (7, .ref [26] v_26 0 (List.map D.bool b_26).length 1), (8, .d (.bool grew8)), (9, .d (.int .i64 passes9)), (10, .d (.int .i64 i10)), (13, .d (.int .i64 at13)), (14, .d (.bool in14)), (15, .d (.bool want15))], tabB [([24], some (.cells [.ref [0, 24] v_0_24 0 (List.map D.bool b_24.long).length 1, .d (.bool b_24.grew), .d (.int .i64 b_24.pass)] 0)), ([0, 24], some (.arr (List.map D.bool b_24.long) v_0_24 false)), ([26], some (.arr (List.map D.bool b_26) v_26 false))]⟩
def hansomlaw36_SizePlays_h68 (b_24 : Sizes) (b_26 : (List Bool)) (l1 : (List Int)) (k5 : Int) (grew8 : Bool) (passes9 : Int) (i10 : Int) (at13 : Int) (in14 : Bool) (want15 : Bool) (j16 : Int) (v_0_24 : Nat) (v_26 : Nat) : St := ⟨tab [(1, .d (.sl (List.map (D.int .i64) l1))), (5, .d (.int .i64 k5)), (6, .ptr [24] 0 0), (7, .ref [26] v_26 0 (List.map D.bool b_26).length 1), (8, .d (.bool grew8)), (9, .d (.int .i64 passes9)), (10, .d (.int .i64 i10)), (13, .d (.int .i64 at13)), (14, .d (.bool in14)), (15, .d (.bool want15)), (16, .d (.int .i64 j16))], tabB [([24], some (.cells [.ref [0, 24] v_0_24 0 (List.map D.bool b_24.long).length 1, .d (.bool b_24.grew), .d (.int .i64 b_24.pass)] 0)), ([0, 24], some (.arr (List.map D.bool b_24.long) v_0_24 false)), ([26], some (.arr (List.map D.bool b_26) v_26 false))]⟩
def hansomlaw36_SizePlays_h69 (b_24 : Sizes) (b_26 : (List Bool)) (l1 : (List Int)) (k5 : Int) (grew8 : Bool) (passes9 : Int) (i10 : Int) (at13 : Int) (in14 : Bool) (want15 : Bool) (j16 : Int) (v_0_24 : Nat) (v_26 : Nat) : St := ⟨tab [(1, .d (.sl (List.map (D.int .i64) l1))), (5, .d (.int .i64 k5)), (6, .ptr [24] 0 0), (7, .ref [26] v_26 0 (List.map D.bool b_26).length 1), (8, .d (.bool grew8)), (9, .d (.int .i64 passes9)), (10, .d (.int .i64 i10)), (13, .d (.int .i64 at13)), (14, .d (.bool in14)), (15, .d (.bool want15)), (16, .d (.int .i64 j16))], tabB [([24], some (.cells [.ref [0, 24] v_0_24 0 (List.map D.bool b_24.long).length 1, .d (.bool b_24.grew), .d (.int .i64 b_24.pass)] 0)), ([0, 24], some (.arr (List.map D.bool b_24.long) v_0_24 false)), ([26], some (.arr (List.map D.bool b_26) v_26 false))]⟩
def hansomlaw36_SizePlays_h80 (b_24 : Sizes) (b_26 : (List Bool)) (l1 : (List Int)) (k5 : Int) (grew8 : Bool) (passes9 : Int) (i10 : Int) (at13 : Int) (in14 : Bool) (want15 : Bool) (v_0_24 : Nat) (v_26 : Nat) : St := ⟨tab [(1, .d (.sl (List.map (D.int .i64) l1))), (5, .d (.int .i64 k5)), (6, .ptr [24] 0 0), (7, .ref [26] v_26 0 (List.map D.bool b_26).length 1), (8, .d (.bool grew8)), (9, .d (.int .i64 passes9)), (10, .d (.int .i64 i10)), (13, .d (.int .i64 at13)), (14, .d (.bool in14)), (15, .d (.bool want15))], tabB [([24], some (.cells [.ref [0, 24] v_0_24 0 (List.map D.bool b_24.long).length 1, .d (.bool b_24.grew), .d (.int .i64 b_24.pass)] 0)), ([0, 24], some (.arr (List.map D.bool b_24.long) v_0_24 false)), ([26], some (.arr (List.map D.bool b_26) v_26 false))]⟩
def hansomlaw36_SizePlays_h88 (b_24 : Sizes) (b_26 : (List Bool)) (l1 : (List Int)) (k5 : Int) (grew8 : Bool) (passes9 : Int) (i10 : Int) (at13 : Int) (in14 : Bool) (want15 : Bool) (v_0_24 : Nat) (v_26 : Nat) : St := ⟨tab [(1, .d (.sl (List.map (D.int .i64) l1))), (5, .d (.int .i64 k5)), (6, .ptr [24] 0 0), (7, .ref [26] v_26 0 (List.map D.bool b_26).length 1), (8, .d (.bool grew8)), (9, .d (.int .i64 passes9)), (10, .d (.int .i64 i10)), (13, .d (.int .i64 at13)), (14, .d (.bool in14)), (15, .d (.bool want15))], tabB [([24], some (.cells [.ref [0, 24] v_0_24 0 (List.map D.bool b_24.long).length 1, .d (.bool b_24.grew), .d (.int .i64 b_24.pass)] 0)), ([0, 24], some (.arr (List.map D.bool b_24.long) v_0_24 false)), ([26], some (.arr (List.map D.bool b_26) v_26 false))]⟩
def hansomlaw36_SizePlays_h94n (b_24 : Sizes) (b_26 : (List Bool)) (l1 : (List Int)) (k5 : Int) (grew8 : Bool) (passes9 : Int) (i10 : Int) (at13 : Int) (in14 : Bool) (v_0_24 : Nat) (v_26 : Nat) (n_26 : Nat) : St := ⟨tab [(1, .d (.sl (List.map (D.int .i64) l1))), (5, .d (.int .i64 k5)), (6, .ptr [24] 0 0), (7, .ref [26] v_26 0 n_26 1), (8, .d (.bool grew8)), (9, .d (.int .i64 passes9)), (10, .d (.int .i64 i10)), (13, .d (.int .i64 at13)), (14, .d (.bool in14))], tabB [([24], some (.cells [.ref [0, 24] v_0_24 0 (List.map D.bool b_24.long).length 1, .d (.bool b_24.grew), .d (.int .i64 b_24.pass)] 0)), ([0, 24], some (.arr (List.map D.bool b_24.long) v_0_24 false)), ([26], some (.arr (List.map D.bool b_26) v_26 false))]⟩
def hansomlaw36_SizePlays_h94 (b_24 : Sizes) (b_26 : (List Bool)) (l1 : (List Int)) (k5 : Int) (grew8 : Bool) (passes9 : Int) (i10 : Int) (at13 : Int) (in14 : Bool) (v_0_24 : Nat) (v_26 : Nat) : St := hansomlaw36_SizePlays_h94n b_24 b_26 l1 k5 grew8 passes9 i10 at13 in14 v_0_24 v_26 (List.map D.bool b_26).length
def hansomlaw36_SizePlays_h96 (b_24 : Sizes) (b_26 : (List Bool)) (l1 : (List Int)) (k5 : Int) (grew8 : Bool) (passes9 : Int) (i10 : Int) (at13 : Int) (in14 : Bool) (many17 : Int) (v_0_24 : Nat) (v_26 : Nat) : St := ⟨tab [(1, .d (.sl (List.map (D.int .i64) l1))), (5, .d (.int .i64 k5)), (6, .ptr [24] 0 0), (7, .ref [26] v_26 0 (List.map D.bool b_26).length 1), (8, .d (.bool grew8)), (9, .d (.int .i64 passes9)), (10, .d (.int .i64 i10)), (13, .d (.int .i64 at13)), (14, .d (.bool in14)), (17, .d (.int .i64 many17))], tabB [([24], some (.cells [.ref [0, 24] v_0_24 0 (List.map D.bool b_24.long).length 1, .d (.bool b_24.grew), .d (.int .i64 b_24.pass)] 0)), ([0, 24], some (.arr (List.map D.bool b_24.long) v_0_24 false)), ([26], some (.arr (List.map D.bool b_26) v_26 false))]⟩
def hansomlaw36_SizePlays_h99 (b_24 : Sizes) (b_26 : (List Bool)) (l1 : (List Int)) (k5 : Int) (grew8 : Bool) (passes9 : Int) (i10 : Int) (at13 : Int) (in14 : Bool) (many17 : Int) (j18 : Int) (v_0_24 : Nat) (v_26 : Nat) : St := ⟨tab [(1, .d (.sl (List.map (D.int .i64) l1))), (5, .d (.int .i64 k5)), (6, .ptr [24] 0 0), (7, .ref [26] v_26 0 (List.map D.bool b_26).length 1), (8, .d (.bool grew8)), (9, .d (.int .i64 passes9)), (10, .d (.int .i64 i10)), (13, .d (.int .i64 at13)), (14, .d (.bool in14)), (17, .d (.int .i64 many17)), (18, .d (.int .i64 j18))], tabB [([24], some (.cells [.ref [0, 24] v_0_24 0 (List.map D.bool b_24.long).length 1, .d (.bool b_24.grew), .d (.int .i64 b_24.pass)] 0)), ([0, 24], some (.arr (List.map D.bool b_24.long) v_0_24 false)), ([26], some (.arr (List.map D.bool b_26) v_26 false))]⟩
def hansomlaw36_SizePlays_h100n (b_24 : Sizes) (b_26 : (List Bool)) (l1 : (List Int)) (k5 : Int) (grew8 : Bool) (passes9 : Int) (i10 : Int) (at13 : Int) (in14 : Bool) (many17 : Int) (j18 : Int) (v_0_24 : Nat) (v_26 : Nat) (n_26 : Nat) : St := ⟨tab [(1, .d (.sl (List.map (D.int .i64) l1))), (5, .d (.int .i64 k5)), (6, .ptr [24] 0 0), (7, .ref [26] v_26 0 n_26 1), (8, .d (.bool grew8)), (9, .d (.int .i64 passes9)), (10, .d (.int .i64 i10)), (13, .d (.int .i64 at13)), (14, .d (.bool in14)), (17, .d (.int .i64 many17)), (18, .d (.int .i64 j18))], tabB [([24], some (.cells [.ref [0, 24] v_0_24 0 (List.map D.bool b_24.long).length 1, .d (.bool b_24.grew), .d (.int .i64 b_24.pass)] 0)), ([0, 24], some (.arr (List.map D.bool b_24.long) v_0_24 false)), ([26], some (.arr (List.map D.bool b_26) v_26 false))]⟩
def hansomlaw36_SizePlays_h100 (b_24 : Sizes) (b_26 : (List Bool)) (l1 : (List Int)) (k5 : Int) (grew8 : Bool) (passes9 : Int) (i10 : Int) (at13 : Int) (in14 : Bool) (many17 : Int) (j18 : Int) (v_0_24 : Nat) (v_26 : Nat) : St := hansomlaw36_SizePlays_h100n b_24 b_26 l1 k5 grew8 passes9 i10 at13 in14 many17 j18 v_0_24 v_26 (List.map D.bool b_26).length
def hansomlaw36_SizePlays_h123 (b_24 : Sizes) (b_26 : (List Bool)) (l1 : (List Int)) (k5 : Int) (grew8 : Bool) (passes9 : Int) (i10 : Int) (at13 : Int) (in14 : Bool) (many17 : Int) (v_0_24 : Nat) (v_26 : Nat) : St := ⟨tab [(1, .d (.sl (List.map (D.int .i64) l1))), (5, .d (.int .i64 k5)), (6, .ptr [24] 0 0), (7, .ref [26] v_26 0 (List.map D.bool b_26).length 1), (8, .d (.bool grew8)), (9, .d (.int .i64 passes9)), (10, .d (.int .i64 i10)), (13, .d (.int .i64 at13)), (14, .d (.bool in14)), (17, .d (.int .i64 many17))], tabB [([24], some (.cells [.ref [0, 24] v_0_24 0 (List.map D.bool b_24.long).length 1, .d (.bool b_24.grew), .d (.int .i64 b_24.pass)] 0)), ([0, 24], some (.arr (List.map D.bool b_24.long) v_0_24 false)), ([26], some (.arr (List.map D.bool b_26) v_26 false))]⟩
def hansomlaw36_SizePlays_h131  : St := ⟨tab [], tabB []⟩
def hansomlaw36_SizePlays_Q (n_ : Int) (l_ : (List Int)) (r : Bool) (p : Out × St) : Prop := (∀ i, p.1 ≠ .exit i) ∧ finF F3 [.d (.int .i64 n_), .d (.sl (List.map (D.int .i64) l_))] p.2 = some (.d (.bool r), [.d (.int .i64 n_), .d (.sl (List.map (D.int .i64) l_))])
def hansomlaw36_SizePlays_P69 (n_ : Int) (l_ : (List Int)) (b_24 : Sizes) (b_26 : (List Bool)) (l1 : (List Int)) (k5 : Int) (grew8 : Bool) (passes9 : Int) (i10 : Int) (at13 : Int) (in14 : Bool) (e : Bool) (p : Out × St) : Prop := p.1 = .exit 2 ∧ ∃ g : (Nat × Nat), Canon [] [1, 5, 6, 7, 8, 9, 10, 13, 14, 15] [[24], [0, 24], [26]] p.2 (hansomlaw36_SizePlays_h80 b_24 b_26 l1 k5 grew8 passes9 i10 at13 in14 e g.1 g.2)
def hansomlaw36_SizePlays_P100 (n_ : Int) (l_ : (List Int)) (b_24 : Sizes) (b_26 : (List Bool)) (l1 : (List Int)) (k5 : Int) (grew8 : Bool) (passes9 : Int) (i10 : Int) (at13 : Int) (in14 : Bool) (e : (Bool ⊕ Int)) (p : Out × St) : Prop := match e with
  | .inl x => p.1 = .ret ∧ finF F3 [.d (.int .i64 n_), .d (.sl (List.map (D.int .i64) l_))] p.2 = some (.d (.bool x), [.d (.int .i64 n_), .d (.sl (List.map (D.int .i64) l_))])
  | .inr x => p.1 = .exit 4 ∧ ∃ g : (Nat × Nat), Canon [] [1, 5, 6, 7, 8, 9, 10, 13, 14, 17] [[24], [0, 24], [26]] p.2 (hansomlaw36_SizePlays_h123 b_24 b_26 l1 k5 grew8 passes9 i10 at13 in14 x g.1 g.2)
def hansomlaw36_SizePlays_P10 (n_ : Int) (l_ : (List Int)) (l1 : (List Int)) (k5 : Int) (e : (Bool ⊕ Unit)) (p : Out × St) : Prop := match e with
  | .inl x => p.1 = .ret ∧ finF F3 [.d (.int .i64 n_), .d (.sl (List.map (D.int .i64) l_))] p.2 = some (.d (.bool x), [.d (.int .i64 n_), .d (.sl (List.map (D.int .i64) l_))])
  | .inr x => p.1 = .exit 0 ∧ ∃ g : Unit, Canon [] [] [] p.2 (hansomlaw36_SizePlays_h131)
theorem hansomlaw36_SizePlays_l69_ok (n_ : Int) (l_ : (List Int)) (b_24 : Sizes) (b_26 : (List Bool)) (l1 : (List Int)) (k5 : Int) (grew8 : Bool) (passes9 : Int) (i10 : Int) (at13 : Int) (in14 : Bool) (want15 : Bool) (j16 : Int) (v_0_24 : Nat) (v_26 : Nat) (r : (Lp (Bool × Int) Bool)) (h : hansomlaw36_SizePlays_l69 b_24 b_26 l1 k5 grew8 passes9 i10 at13 in14 want15 j16 = some r) : Runs L F3l69 (hansomlaw36_SizePlays_h69 b_24 b_26 l1 k5 grew8 passes9 i10 at13 in14 want15 j16 v_0_24 v_26) (LQ [] [1, 5, 6, 7, 8, 9, 10, 13, 14, 15, 16] [[24], [0, 24], [26]] (fun (x : (Bool × Int)) (g : (Nat × Nat)) => hansomlaw36_SizePlays_h69 b_24 b_26 l1 k5 grew8 passes9 i10 at13 in14 x.1 x.2 g.1 g.2) (hansomlaw36_SizePlays_P69 n_ l_ b_24 b_26 l1 k5 grew8 passes9 i10 at13 in14) r) := by
  unfold hansomlaw36_SizePlays_l69 at h
  refine Runs.seq ?_
  refine Runs.seq ?_
  refine Runs.ops ?_
  refine RunAt.chunk 3 [⟨.d (.int .i64 j16), []⟩, ⟨.d (.int .i64 k5), []⟩, ⟨.d (.bool (decide (j16 < k5))), []⟩] (by kernel_rfl) ?_
  refine RunAt.done (by kernel_rfl) ?_
  refine kS_nrm ?_
  cases hb_11 : ((decide (j16 < k5)) : Bool) with
  | true =>
    replace h := ite_t hb_11 h
    refine Runs.cond_t (by kernel_rfl) ?_
    refine Runs.skip ?_
    refine kS_nrm ?_
    refine Runs.seq ?_
    refine Runs.block ?_
    refine Runs.ops ?_
    refine RunAt.chunk 2 [⟨.d (.bool want15), []⟩, ⟨.d (.bool want15), []⟩] (by kernel_rfl) ?_
    cases hb_12 : (want15 : Bool) with
    | true =>
      replace h := ite_t hb_12 h
      refine RunAt.chunk 12 [⟨.tup [], []⟩, ⟨.tup [], []⟩, ⟨.tup [], []⟩, ⟨.tup [], []⟩, ⟨.tup [], []⟩, ⟨.tup [], []⟩, ⟨.tup [], []⟩, ⟨.tup [], []⟩, ⟨.tup [], []⟩, ⟨.tup [], []⟩, ⟨.d (.bool true), []⟩, ⟨.d (.bool true), []⟩] (by kernel_rfl) ?_
      refine RunAt.done (by kernel_rfl) ?_
      refine kB_nrm ?_
      refine kS_nrm ?_
      refine Runs.ops ?_
      refine RunAt.chunk 3 [⟨.d (.int .i64 j16), []⟩, ⟨.d (.int .i64 (IntKind.wrap .i64 (j16 + 1))), []⟩, ⟨.d (.int .i64 (IntKind.wrap .i64 (j16 + 1))), []⟩] (by kernel_rfl) ?_
      refine RunAt.done (by kernel_rfl) ?_
      obtain rfl := Option.some.inj h
      exact ⟨rfl, (v_0_24, v_26), (Canon.nil (by kernel_rfl))⟩
    | false =>
      replace h := ite_f hb_12 h
      refine RunAt.chunk 4 [⟨.d (.int .i64 j16), []⟩, ⟨.d (.int .i64 at13), []⟩, ⟨.d (.bool (j16 == at13)), []⟩, ⟨.d (.bool (j16 == at13)), []⟩] (by kernel_rfl) ?_
      cases hb_13 : ((j16 == at13) : Bool) with
      | true =>
        replace h := ite_t hb_13 h
        refine RunAt.chunk 2 [⟨.ref [26] v_26 0 (List.map D.bool b_26).length 1, []⟩, ⟨.d (.int .i64 j16), []⟩] (by kernel_rfl) ?_
        obtain ⟨z_5, hz_5, h⟩ := bind_s h
        refine RunAt.cut (some 98) (.iaddrS 1) [] none [.ref [26] v_26 0 (List.map D.bool b_26).length 1, .d (.int .i64 j16)] (.eref [26] v_26 (0 + (j16).toNat) 0) [] (by kernel_rfl) (by kernel_rfl) (by kernel_rfl) (cut_atR (e := D.bool) (l := b_26) hz_5 rfl) ?_
        refine RunAt.cut (some 99) (.load none) [] none [.eref [26] v_26 (0 + (j16).toNat) 0] (.d (.bool z_5)) [] (by kernel_rfl) (by kernel_rfl) (by kernel_rfl) (cut_loadR (e := D.bool) (l := b_26) (fz := false) (y := z_5) (by kernel_rfl) hz_5 (by kernel_rfl) (by kernel_rfl)) ?_
        refine RunAt.chunk 4 [⟨.d (.bool (!z_5)), []⟩, ⟨.d (.bool (!z_5)), []⟩, ⟨.d (.bool (!z_5)), []⟩, ⟨.d (.bool (!z_5)), []⟩] (by kernel_rfl) ?_
        refine RunAt.done (by kernel_rfl) ?_
        refine kB_nrm ?_
        refine kS_nrm ?_
        refine Runs.ops ?_
        refine RunAt.chunk 3 [⟨.d (.int .i64 j16), []⟩, ⟨.d (.int .i64 (IntKind.wrap .i64 (j16 + 1))), []⟩, ⟨.d (.int .i64 (IntKind.wrap .i64 (j16 + 1))), []⟩] (by kernel_rfl) ?_
        refine RunAt.done (by kernel_rfl) ?_
        obtain rfl := Option.some.inj h
        exact ⟨rfl, (v_0_24, v_26), (Canon.nil (by kernel_rfl))⟩
      | false =>
        replace h := ite_f hb_13 h
        refine RunAt.chunk 8 [⟨.tup [], []⟩, ⟨.tup [], []⟩, ⟨.tup [], []⟩, ⟨.tup [], []⟩, ⟨.tup [], []⟩, ⟨.d (.bool false), []⟩, ⟨.d (.bool false), []⟩, ⟨.d (.bool false), []⟩] (by kernel_rfl) ?_
        refine RunAt.done (by kernel_rfl) ?_
        refine kB_nrm ?_
        refine kS_nrm ?_
        refine Runs.ops ?_
        refine RunAt.chunk 3 [⟨.d (.int .i64 j16), []⟩, ⟨.d (.int .i64 (IntKind.wrap .i64 (j16 + 1))), []⟩, ⟨.d (.int .i64 (IntKind.wrap .i64 (j16 + 1))), []⟩] (by kernel_rfl) ?_
        refine RunAt.done (by kernel_rfl) ?_
        obtain rfl := Option.some.inj h
        exact ⟨rfl, (v_0_24, v_26), (Canon.nil (by kernel_rfl))⟩
  | false =>
    replace h := ite_f hb_11 h
    refine Runs.cond_f (by kernel_rfl) ?_
    refine Runs.exit ?_
    refine kS_exit ?_
    obtain rfl := Option.some.inj h
    exact ⟨nofun, rfl, (v_0_24, v_26), (Canon.nil (by kernel_rfl))⟩
theorem hansomlaw36_SizePlays_l100_ok (n_ : Int) (l_ : (List Int)) (b_24 : Sizes) (b_26 : (List Bool)) (l1 : (List Int)) (k5 : Int) (grew8 : Bool) (passes9 : Int) (i10 : Int) (at13 : Int) (in14 : Bool) (many17 : Int) (j18 : Int) (v_0_24 : Nat) (v_26 : Nat) (r : (Lp (Int × Int) (Bool ⊕ Int))) (h : hansomlaw36_SizePlays_l100 b_24 b_26 l1 k5 grew8 passes9 i10 at13 in14 many17 j18 = some r) : Runs L F3l100 (hansomlaw36_SizePlays_h100 b_24 b_26 l1 k5 grew8 passes9 i10 at13 in14 many17 j18 v_0_24 v_26) (LQ [] [1, 5, 6, 7, 8, 9, 10, 13, 14, 17, 18] [[24], [0, 24], [26]] (fun (x : (Int × Int)) (g : (Nat × Nat)) => hansomlaw36_SizePlays_h100 b_24 b_26 l1 k5 grew8 passes9 i10 at13 in14 x.1 x.2 g.1 g.2) (hansomlaw36_SizePlays_P100 n_ l_ b_24 b_26 l1 k5 grew8 passes9 i10 at13 in14) r) := by
  unfold hansomlaw36_SizePlays_l100 at h
  refine Runs.seq ?_
  refine Runs.seq ?_
  refine Runs.ops ?_
  refine RunAt.chunk 3 [⟨.d (.int .i64 j18), []⟩, ⟨.d (.int .i64 k5), []⟩, ⟨.d (.bool (decide (j18 < k5))), []⟩] (by kernel_rfl) ?_
  refine RunAt.done (by kernel_rfl) ?_
  refine kS_nrm ?_
  cases hb_13 : ((decide (j18 < k5)) : Bool) with
  | true =>
    replace h := ite_t hb_13 h
    refine Runs.cond_t (by kernel_rfl) ?_
    refine Runs.skip ?_
    refine kS_nrm ?_
    refine Runs.seq ?_
    refine Runs.block ?_
    refine Runs.seq ?_
    refine Runs.seq ?_
    refine Runs.ops ?_
    refine RunAt.chunk 2 [⟨.ptr [24] 0 0, []⟩, ⟨.d (.int .i64 j18), []⟩] (by kernel_rfl) ?_
    obtain ⟨r_4, hr_4, h⟩ := bind_s h
    have hc_4 := size_Sizes_Long_L b_24 j18 r_4 hr_4
    refine RunAt.cut (some 119) (.callf 18) [] (some [[0, 24], [24]]) [.ptr [24] 0 0, .d (.int .i64 j18)] (.d (.bool r_4)) [([0, 24], some (.arr (List.map D.bool []) (v_0_24 + 1) false)), ([0, 24], some (.arr (List.map D.bool b_24.long) ((v_0_24 + 1) + 1) false)), ([24], some (.cells [.ref [0, 24] ((v_0_24 + 1) + 1) 0 (List.map D.bool b_24.long).length 1, .d (.bool b_24.grew), .d (.int .i64 b_24.pass)] 0))] (by kernel_rfl) (by kernel_rfl) (by kernel_rfl) (cut_call (call_of (ws := [([0, 24], some (.arr (List.map D.bool []) (v_0_24 + 1) false))]) (us := [([0, 24], some (.arr (List.map D.bool []) (v_0_24 + 1) false)), ([0, 24], some (.arr (List.map D.bool b_24.long) ((v_0_24 + 1) + 1) false)), ([24], some (.cells [.ref [0, 24] ((v_0_24 + 1) + 1) 0 (List.map D.bool b_24.long).length 1, .d (.bool b_24.grew), .d (.int .i64 b_24.pass)] 0))]) (by kernel_rfl) (gives_cons (ws := [([0, 24], some (.arr (List.map D.bool []) (v_0_24 + 1) false))]) (give_ptr (by kernel_rfl) (by kernel_rfl) (gcs_own (id := [0, 24]) (v := v_0_24) (fz := false) (es := List.map D.bool b_24.long) (by kernel_rfl) (by kernel_rfl) (by kernel_rfl) rfl (gcs_d (gcs_d gcs_nil)))) (gives_cons (ws := []) (give_same (by kernel_rfl)) gives_nil)) hc_4 (by kernel_rfl) (by kernel_rfl))) ?_
    refine RunAt.chunk 2 [⟨.ref [26] v_26 0 (List.map D.bool b_26).length 1, []⟩, ⟨.d (.int .i64 j18), []⟩] (by kernel_rfl) ?_
    obtain ⟨z_6, hz_6, h⟩ := bind_s h
    refine RunAt.cut (some 122) (.iaddrS 1) [] none [.ref [26] v_26 0 (List.map D.bool b_26).length 1, .d (.int .i64 j18)] (.eref [26] v_26 (0 + (j18).toNat) 0) [] (by kernel_rfl) (by kernel_rfl) (by kernel_rfl) (cut_atR (e := D.bool) (l := b_26) hz_6 rfl) ?_
    refine RunAt.cut (some 123) (.load none) [[119], [0, 24], [24]] none [.eref [26] v_26 (0 + (j18).toNat) 0] (.d (.bool z_6)) [] (by kernel_rfl) (by kernel_rfl) (by kernel_rfl) (cut_loadR (e := D.bool) (l := b_26) (fz := false) (y := z_6) (by kernel_rfl) hz_6 (by kernel_rfl) (by kernel_rfl)) ?_
    refine RunAt.chunk 1 [⟨.d (.bool (r_4 != z_6)), []⟩] (by kernel_rfl) ?_
    refine RunAt.done (by kernel_rfl) ?_
    refine kS_nrm ?_
    cases hb_14 : ((r_4 != z_6) : Bool) with
    | true =>
      replace h := ite_t hb_14 h
      refine Runs.cond_t (by kernel_rfl) ?_
      refine Runs.seq ?_
      refine Runs.ops ?_
      refine RunAt.chunk 1 [⟨.d (.bool false), []⟩] (by kernel_rfl) ?_
      refine RunAt.done (by kernel_rfl) ?_
      refine kS_nrm ?_
      refine Runs.ret ?_
      refine kS_ret ?_
      refine kB_ret ?_
      refine kS_ret ?_
      obtain rfl := Option.some.inj h
      exact ⟨nofun, rfl, (by kernel_rfl)⟩
    | false =>
      replace h := ite_f hb_14 h
      refine Runs.cond_f (by kernel_rfl) ?_
      refine Runs.skip ?_
      refine kS_nrm ?_
      refine Runs.seq ?_
      refine Runs.ops ?_
      refine RunAt.chunk 2 [⟨.ref [26] v_26 0 (List.map D.bool b_26).length 1, []⟩, ⟨.d (.int .i64 j18), []⟩] (by kernel_rfl) ?_
      obtain ⟨z_7, hz_7, h⟩ := bind_s h
      refine RunAt.cut (some 127) (.iaddrS 1) [] none [.ref [26] v_26 0 (List.map D.bool b_26).length 1, .d (.int .i64 j18)] (.eref [26] v_26 (0 + (j18).toNat) 0) [] (by kernel_rfl) (by kernel_rfl) (by kernel_rfl) (cut_atR (e := D.bool) (l := b_26) hz_7 rfl) ?_
      refine RunAt.cut (some 128) (.load none) [] none [.eref [26] v_26 (0 + (j18).toNat) 0] (.d (.bool z_7)) [] (by kernel_rfl) (by kernel_rfl) (by kernel_rfl) (cut_loadR (e := D.bool) (l := b_26) (fz := false) (y := z_7) (by kernel_rfl) hz_7 (by kernel_rfl) (by kernel_rfl)) ?_
      refine RunAt.done (by kernel_rfl) ?_
      refine kS_nrm ?_
      cases hb_15 : (z_7 : Bool) with
      | true =>
        replace h := ite_t hb_15 h
        refine Runs.cond_t (by kernel_rfl) ?_
        refine Runs.ops ?_
        refine RunAt.chunk 3 [⟨.d (.int .i64 many17), []⟩, ⟨.d (.int .i64 (IntKind.wrap .i64 (many17 + 1))), []⟩, ⟨.d (.int .i64 (IntKind.wrap .i64 (many17 + 1))), []⟩] (by kernel_rfl) ?_
        refine RunAt.done (by kernel_rfl) ?_
        refine kB_nrm ?_
        refine kS_nrm ?_
        refine Runs.ops ?_
        refine RunAt.chunk 3 [⟨.d (.int .i64 j18), []⟩, ⟨.d (.int .i64 (IntKind.wrap .i64 (j18 + 1))), []⟩, ⟨.d (.int .i64 (IntKind.wrap .i64 (j18 + 1))), []⟩] (by kernel_rfl) ?_
        refine RunAt.done (by kernel_rfl) ?_
        obtain rfl := Option.some.inj h
        exact ⟨rfl, (((v_0_24 + 1) + 1), v_26), (Canon.nil (by kernel_rfl))⟩
      | false =>
        replace h := ite_f hb_15 h
        refine Runs.cond_f (by kernel_rfl) ?_
        refine Runs.skip ?_
        refine kB_nrm ?_
        refine kS_nrm ?_
        refine Runs.ops ?_
        refine RunAt.chunk 3 [⟨.d (.int .i64 j18), []⟩, ⟨.d (.int .i64 (IntKind.wrap .i64 (j18 + 1))), []⟩, ⟨.d (.int .i64 (IntKind.wrap .i64 (j18 + 1))), []⟩] (by kernel_rfl) ?_
        refine RunAt.done (by kernel_rfl) ?_
        obtain rfl := Option.some.inj h
        exact ⟨rfl, (((v_0_24 + 1) + 1), v_26), (Canon.nil (by kernel_rfl))⟩
  | false =>
    replace h := ite_f hb_13 h
    refine Runs.cond_f (by kernel_rfl) ?_
    refine Runs.exit ?_
    refine kS_exit ?_
    obtain rfl := Option.some.inj h
    exact ⟨nofun, rfl, (v_0_24, v_26), (Canon.nil (by kernel_rfl))⟩
theorem hansomlaw36_SizePlays_j123_ok (n_ : Int) (l_ : (List Int)) (b_24 : Sizes) (b_26 : (List Bool)) (l1 : (List Int)) (k5 : Int) (grew8 : Bool) (passes9 : Int) (i10 : Int) (at13 : Int) (in14 : Bool) (many17 : Int) (v_0_24 : Nat) (v_26 : Nat) (r : (Lp (Sizes × (List Bool) × Bool × Int × Int) (Bool ⊕ Unit))) (h : hansomlaw36_SizePlays_j123 b_24 b_26 l1 k5 grew8 passes9 i10 at13 in14 many17 = some r) : Runs L F3b123 (hansomlaw36_SizePlays_h123 b_24 b_26 l1 k5 grew8 passes9 i10 at13 in14 many17 v_0_24 v_26) (kB 1 (kS L F3c130 (LQ [] [1, 5, 6, 7, 8, 9, 10] [[24], [0, 24], [26]] (fun (x : (Sizes × (List Bool) × Bool × Int × Int)) (g : (Nat × Nat)) => hansomlaw36_SizePlays_h10 x.1 x.2.1 l1 k5 x.2.2.1 x.2.2.2.1 x.2.2.2.2 g.1 g.2) (hansomlaw36_SizePlays_P10 n_ l_ l1 k5) r))) := by
  unfold hansomlaw36_SizePlays_j123 at h
  refine Runs.seq ?_
  refine Runs.ops ?_
  refine RunAt.chunk 1 [⟨.ptr [24] 0 0, []⟩] (by kernel_rfl) ?_
  obtain ⟨r_4, hr_4, h⟩ := bind_s h
  have hc_4 := size_Sizes_Count_L b_24 r_4 hr_4
  refine RunAt.cut (some 132) (.callf 19) [] none [.ptr [24] 0 0] (.d (.int .i64 r_4)) [([0, 24], some (.arr (List.map D.bool []) (v_0_24 + 1) false)), ([0, 24], some (.arr (List.map D.bool b_24.long) ((v_0_24 + 1) + 1) false)), ([24], some (.cells [.ref [0, 24] ((v_0_24 + 1) + 1) 0 (List.map D.bool b_24.long).length 1, .d (.bool b_24.grew), .d (.int .i64 b_24.pass)] 0))] (by kernel_rfl) (by kernel_rfl) (by kernel_rfl) (cut_call (call_of (ws := [([0, 24], some (.arr (List.map D.bool []) (v_0_24 + 1) false))]) (us := [([0, 24], some (.arr (List.map D.bool []) (v_0_24 + 1) false)), ([0, 24], some (.arr (List.map D.bool b_24.long) ((v_0_24 + 1) + 1) false)), ([24], some (.cells [.ref [0, 24] ((v_0_24 + 1) + 1) 0 (List.map D.bool b_24.long).length 1, .d (.bool b_24.grew), .d (.int .i64 b_24.pass)] 0))]) (by kernel_rfl) (gives_cons (ws := [([0, 24], some (.arr (List.map D.bool []) (v_0_24 + 1) false))]) (give_ptr (by kernel_rfl) (by kernel_rfl) (gcs_own (id := [0, 24]) (v := v_0_24) (fz := false) (es := List.map D.bool b_24.long) (by kernel_rfl) (by kernel_rfl) (by kernel_rfl) rfl (gcs_d (gcs_d gcs_nil)))) gives_nil) hc_4 (by kernel_rfl) (by kernel_rfl))) ?_
  refine RunAt.chunk 3 [⟨.d (.int .i64 many17), []⟩, ⟨.d (.bool (r_4 != many17)), []⟩, ⟨.d (.bool (r_4 != many17)), []⟩] (by kernel_rfl) ?_
  cases hb_13 : ((r_4 != many17) : Bool) with
  | true =>
    replace h := ite_t hb_13 h
    refine RunAt.chunk 16 [⟨.tup [], []⟩, ⟨.tup [], []⟩, ⟨.tup [], []⟩, ⟨.tup [], []⟩, ⟨.d (.bool true), []⟩, ⟨.d (.bool true), []⟩, ⟨.tup [], []⟩, ⟨.tup [], []⟩, ⟨.tup [], []⟩, ⟨.tup [], []⟩, ⟨.tup [], []⟩, ⟨.tup [], []⟩, ⟨.tup [], []⟩, ⟨.tup [], []⟩, ⟨.tup [], []⟩, ⟨.d (.bool true), []⟩] (by kernel_rfl) ?_
    refine RunAt.done (by kernel_rfl) ?_
    refine kS_nrm ?_
    refine Runs.cond_t (by kernel_rfl) ?_
    refine Runs.seq ?_
    refine Runs.ops ?_
    refine RunAt.chunk 1 [⟨.d (.bool false), []⟩] (by kernel_rfl) ?_
    refine RunAt.done (by kernel_rfl) ?_
    refine kS_nrm ?_
    refine Runs.ret ?_
    refine kB_ret ?_
    refine kS_ret ?_
    obtain rfl := Option.some.inj h
    exact ⟨nofun, rfl, (by kernel_rfl)⟩
  | false =>
    replace h := ite_f hb_13 h
    refine RunAt.chunk 1 [⟨.ptr [24] 0 0, []⟩] (by kernel_rfl) ?_
    obtain ⟨r_5, hr_5, h⟩ := bind_s h
    have hc_5 := size_Sizes_Pass_L b_24 r_5 hr_5
    refine RunAt.cut (some 137) (.callf 20) [] none [.ptr [24] 0 0] (.d (.int .i64 r_5)) [([0, 24], some (.arr (List.map D.bool []) (((v_0_24 + 1) + 1) + 1) false)), ([0, 24], some (.arr (List.map D.bool b_24.long) ((((v_0_24 + 1) + 1) + 1) + 1) false)), ([24], some (.cells [.ref [0, 24] ((((v_0_24 + 1) + 1) + 1) + 1) 0 (List.map D.bool b_24.long).length 1, .d (.bool b_24.grew), .d (.int .i64 b_24.pass)] 0))] (by kernel_rfl) (by kernel_rfl) (by kernel_rfl) (cut_call (call_of (ws := [([0, 24], some (.arr (List.map D.bool []) (((v_0_24 + 1) + 1) + 1) false))]) (us := [([0, 24], some (.arr (List.map D.bool []) (((v_0_24 + 1) + 1) + 1) false)), ([0, 24], some (.arr (List.map D.bool b_24.long) ((((v_0_24 + 1) + 1) + 1) + 1) false)), ([24], some (.cells [.ref [0, 24] ((((v_0_24 + 1) + 1) + 1) + 1) 0 (List.map D.bool b_24.long).length 1, .d (.bool b_24.grew), .d (.int .i64 b_24.pass)] 0))]) (by kernel_rfl) (gives_cons (ws := [([0, 24], some (.arr (List.map D.bool []) (((v_0_24 + 1) + 1) + 1) false))]) (give_ptr (by kernel_rfl) (by kernel_rfl) (gcs_own (id := [0, 24]) (v := ((v_0_24 + 1) + 1)) (fz := false) (es := List.map D.bool b_24.long) (by kernel_rfl) (by kernel_rfl) (by kernel_rfl) rfl (gcs_d (gcs_d gcs_nil)))) gives_nil) hc_5 (by kernel_rfl) (by kernel_rfl))) ?_
    refine RunAt.chunk 4 [⟨.d (.int .i64 passes9), []⟩, ⟨.d (.bool (r_5 != passes9)), []⟩, ⟨.d (.bool (r_5 != passes9)), []⟩, ⟨.d (.bool (r_5 != passes9)), []⟩] (by kernel_rfl) ?_
    cases hb_14 : ((r_5 != passes9) : Bool) with
    | true =>
      replace h := ite_t hb_14 h
      refine RunAt.chunk 10 [⟨.tup [], []⟩, ⟨.tup [], []⟩, ⟨.tup [], []⟩, ⟨.tup [], []⟩, ⟨.tup [], []⟩, ⟨.tup [], []⟩, ⟨.tup [], []⟩, ⟨.tup [], []⟩, ⟨.tup [], []⟩, ⟨.d (.bool true), []⟩] (by kernel_rfl) ?_
      refine RunAt.done (by kernel_rfl) ?_
      refine kS_nrm ?_
      refine Runs.cond_t (by kernel_rfl) ?_
      refine Runs.seq ?_
      refine Runs.ops ?_
      refine RunAt.chunk 1 [⟨.d (.bool false), []⟩] (by kernel_rfl) ?_
      refine RunAt.done (by kernel_rfl) ?_
      refine kS_nrm ?_
      refine Runs.ret ?_
      refine kB_ret ?_
      refine kS_ret ?_
      obtain rfl := Option.some.inj h
      exact ⟨nofun, rfl, (by kernel_rfl)⟩
    | false =>
      replace h := ite_f hb_14 h
      refine RunAt.chunk 2 [⟨.ptr [24] 0 0, []⟩, ⟨.d (.int .i64 at13), []⟩] (by kernel_rfl) ?_
      obtain ⟨r_6, hr_6, h⟩ := bind_s h
      have hc_6 := size_Sizes_Long_L b_24 at13 r_6 hr_6
      refine RunAt.cut (some 144) (.callf 18) [] none [.ptr [24] 0 0, .d (.int .i64 at13)] (.d (.bool r_6)) [([0, 24], some (.arr (List.map D.bool []) (((((v_0_24 + 1) + 1) + 1) + 1) + 1) false)), ([0, 24], some (.arr (List.map D.bool b_24.long) ((((((v_0_24 + 1) + 1) + 1) + 1) + 1) + 1) false)), ([24], some (.cells [.ref [0, 24] ((((((v_0_24 + 1) + 1) + 1) + 1) + 1) + 1) 0 (List.map D.bool b_24.long).length 1, .d (.bool b_24.grew), .d (.int .i64 b_24.pass)] 0))] (by kernel_rfl) (by kernel_rfl) (by kernel_rfl) (cut_call (call_of (ws := [([0, 24], some (.arr (List.map D.bool []) (((((v_0_24 + 1) + 1) + 1) + 1) + 1) false))]) (us := [([0, 24], some (.arr (List.map D.bool []) (((((v_0_24 + 1) + 1) + 1) + 1) + 1) false)), ([0, 24], some (.arr (List.map D.bool b_24.long) ((((((v_0_24 + 1) + 1) + 1) + 1) + 1) + 1) false)), ([24], some (.cells [.ref [0, 24] ((((((v_0_24 + 1) + 1) + 1) + 1) + 1) + 1) 0 (List.map D.bool b_24.long).length 1, .d (.bool b_24.grew), .d (.int .i64 b_24.pass)] 0))]) (by kernel_rfl) (gives_cons (ws := [([0, 24], some (.arr (List.map D.bool []) (((((v_0_24 + 1) + 1) + 1) + 1) + 1) false))]) (give_ptr (by kernel_rfl) (by kernel_rfl) (gcs_own (id := [0, 24]) (v := ((((v_0_24 + 1) + 1) + 1) + 1)) (fz := false) (es := List.map D.bool b_24.long) (by kernel_rfl) (by kernel_rfl) (by kernel_rfl) rfl (gcs_d (gcs_d gcs_nil)))) (gives_cons (ws := []) (give_same (by kernel_rfl)) gives_nil)) hc_6 (by kernel_rfl) (by kernel_rfl))) ?_
      refine RunAt.chunk 3 [⟨.d (.bool in14), []⟩, ⟨.d (.bool (r_6 != in14)), []⟩, ⟨.d (.bool (r_6 != in14)), []⟩] (by kernel_rfl) ?_
      cases hb_15 : ((r_6 != in14) : Bool) with
      | true =>
        replace h := ite_t hb_15 h
        refine RunAt.chunk 4 [⟨.d (.bool in14), []⟩, ⟨.d (.bool (!in14)), []⟩, ⟨.d (.bool (!in14)), []⟩, ⟨.d (.bool (!in14)), []⟩] (by kernel_rfl) ?_
        refine RunAt.done (by kernel_rfl) ?_
        refine kS_nrm ?_
        cases hb_16 : ((!in14) : Bool) with
        | true =>
          replace h := ite_t hb_16 h
          refine Runs.cond_t (by kernel_rfl) ?_
          refine Runs.seq ?_
          refine Runs.ops ?_
          refine RunAt.chunk 1 [⟨.d (.bool false), []⟩] (by kernel_rfl) ?_
          refine RunAt.done (by kernel_rfl) ?_
          refine kS_nrm ?_
          refine Runs.ret ?_
          refine kB_ret ?_
          refine kS_ret ?_
          obtain rfl := Option.some.inj h
          exact ⟨nofun, rfl, (by kernel_rfl)⟩
        | false =>
          replace h := ite_f hb_16 h
          refine Runs.cond_f (by kernel_rfl) ?_
          refine Runs.skip ?_
          refine kB_nrm ?_
          refine kS_nrm ?_
          refine Runs.ops ?_
          refine RunAt.chunk 3 [⟨.d (.int .i64 i10), []⟩, ⟨.d (.int .i64 (IntKind.wrap .i64 (i10 + 1))), []⟩, ⟨.d (.int .i64 (IntKind.wrap .i64 (i10 + 1))), []⟩] (by kernel_rfl) ?_
          refine RunAt.done (by kernel_rfl) ?_
          obtain rfl := Option.some.inj h
          exact ⟨rfl, (((((((v_0_24 + 1) + 1) + 1) + 1) + 1) + 1), v_26), (Canon.nil (by kernel_rfl))⟩
      | false =>
        replace h := ite_f hb_15 h
        refine RunAt.chunk 4 [⟨.tup [], []⟩, ⟨.tup [], []⟩, ⟨.d (.bool false), []⟩, ⟨.d (.bool false), []⟩] (by kernel_rfl) ?_
        refine RunAt.done (by kernel_rfl) ?_
        refine kS_nrm ?_
        refine Runs.cond_f (by kernel_rfl) ?_
        refine Runs.skip ?_
        refine kB_nrm ?_
        refine kS_nrm ?_
        refine Runs.ops ?_
        refine RunAt.chunk 3 [⟨.d (.int .i64 i10), []⟩, ⟨.d (.int .i64 (IntKind.wrap .i64 (i10 + 1))), []⟩, ⟨.d (.int .i64 (IntKind.wrap .i64 (i10 + 1))), []⟩] (by kernel_rfl) ?_
        refine RunAt.done (by kernel_rfl) ?_
        obtain rfl := Option.some.inj h
        exact ⟨rfl, (((((((v_0_24 + 1) + 1) + 1) + 1) + 1) + 1), v_26), (Canon.nil (by kernel_rfl))⟩
theorem hansomlaw36_SizePlays_j99_ok (n_ : Int) (l_ : (List Int)) (b_24 : Sizes) (b_26 : (List Bool)) (l1 : (List Int)) (k5 : Int) (grew8 : Bool) (passes9 : Int) (i10 : Int) (at13 : Int) (in14 : Bool) (many17 : Int) (j18 : Int) (v_0_24 : Nat) (v_26 : Nat) (r : (Lp (Sizes × (List Bool) × Bool × Int × Int) (Bool ⊕ Unit))) (h : hansomlaw36_SizePlays_j99 b_24 b_26 l1 k5 grew8 passes9 i10 at13 in14 many17 j18 = some r) : Runs L F3b99 (hansomlaw36_SizePlays_h99 b_24 b_26 l1 k5 grew8 passes9 i10 at13 in14 many17 j18 v_0_24 v_26) (kS L F3c123 (kB 1 (kS L F3c130 (LQ [] [1, 5, 6, 7, 8, 9, 10] [[24], [0, 24], [26]] (fun (x : (Sizes × (List Bool) × Bool × Int × Int)) (g : (Nat × Nat)) => hansomlaw36_SizePlays_h10 x.1 x.2.1 l1 k5 x.2.2.1 x.2.2.2.1 x.2.2.2.2 g.1 g.2) (hansomlaw36_SizePlays_P10 n_ l_ l1 k5) r)))) := by
  unfold hansomlaw36_SizePlays_j99 at h
  refine Runs.block ?_
  obtain ⟨e_2, he_2, h⟩ := bind_s h
  refine Runs.loop (fun x : (Int × Int) => hansomlaw36_SizePlays_l100 b_24 b_26 l1 k5 grew8 passes9 i10 at13 in14 x.1 x.2) (fun (x : (Int × Int)) (g : (Nat × Nat)) => hansomlaw36_SizePlays_h100 b_24 b_26 l1 k5 grew8 passes9 i10 at13 in14 x.1 x.2 g.1 g.2) (hansomlaw36_SizePlays_P100 n_ l_ b_24 b_26 l1 k5 grew8 passes9 i10 at13 in14) (fun x g r hr => hansomlaw36_SizePlays_l100_ok n_ l_ b_24 b_26 l1 k5 grew8 passes9 i10 at13 in14 x.1 x.2 g.1 g.2 r hr) (v_0_24, v_26) he_2 (Canon.nil (by kernel_rfl)) ?_
  rintro ⟨o, s⟩ hp
  cases e_2 with
  | inl e_3 =>
    obtain ⟨ho, hf⟩ := hp
    have ho' : o = .ret := ho
    subst ho'
    refine kB_ret ?_
    refine kS_ret ?_
    refine kB_ret ?_
    refine kS_ret ?_
    obtain rfl := Option.some.inj h
    exact ⟨nofun, rfl, hf⟩
  | inr e_4 =>
    obtain ⟨ho, g_2, hk_2⟩ := hp
    have ho' : o = .exit 4 := ho
    subst ho'
    refine kB_hit ?_
    refine kS_nrm ?_
    refine Runs.canon _ hk_2 ?_
    exact hansomlaw36_SizePlays_j123_ok n_ l_ b_24 b_26 l1 k5 grew8 passes9 i10 at13 in14 e_4 g_2.1 g_2.2 r h
theorem hansomlaw36_SizePlays_j96_ok (n_ : Int) (l_ : (List Int)) (b_24 : Sizes) (b_26 : (List Bool)) (l1 : (List Int)) (k5 : Int) (grew8 : Bool) (passes9 : Int) (i10 : Int) (at13 : Int) (in14 : Bool) (many17 : Int) (v_0_24 : Nat) (v_26 : Nat) (r : (Lp (Sizes × (List Bool) × Bool × Int × Int) (Bool ⊕ Unit))) (h : hansomlaw36_SizePlays_j96 b_24 b_26 l1 k5 grew8 passes9 i10 at13 in14 many17 = some r) : Runs L F3b96 (hansomlaw36_SizePlays_h96 b_24 b_26 l1 k5 grew8 passes9 i10 at13 in14 many17 v_0_24 v_26) (kB 1 (kS L F3c130 (LQ [] [1, 5, 6, 7, 8, 9, 10] [[24], [0, 24], [26]] (fun (x : (Sizes × (List Bool) × Bool × Int × Int)) (g : (Nat × Nat)) => hansomlaw36_SizePlays_h10 x.1 x.2.1 l1 k5 x.2.2.1 x.2.2.2.1 x.2.2.2.2 g.1 g.2) (hansomlaw36_SizePlays_P10 n_ l_ l1 k5) r))) := by
  unfold hansomlaw36_SizePlays_j96 at h
  refine Runs.seq ?_
  refine Runs.seq ?_
  refine Runs.ops ?_
  refine RunAt.chunk 1 [⟨.d (.int .i64 0), []⟩] (by kernel_rfl) ?_
  refine RunAt.done (by kernel_rfl) ?_
  refine kS_nrm ?_
  refine Runs.canon (hansomlaw36_SizePlays_h99 b_24 b_26 l1 k5 grew8 passes9 i10 at13 in14 many17 0 v_0_24 v_26) (Canon.nil (by kernel_rfl)) ?_
  exact hansomlaw36_SizePlays_j99_ok n_ l_ b_24 b_26 l1 k5 grew8 passes9 i10 at13 in14 many17 0 v_0_24 v_26 r h
theorem hansomlaw36_SizePlays_j94_ok (n_ : Int) (l_ : (List Int)) (b_24 : Sizes) (b_26 : (List Bool)) (l1 : (List Int)) (k5 : Int) (grew8 : Bool) (passes9 : Int) (i10 : Int) (at13 : Int) (in14 : Bool) (v_0_24 : Nat) (v_26 : Nat) (r : (Lp (Sizes × (List Bool) × Bool × Int × Int) (Bool ⊕ Unit))) (h : hansomlaw36_SizePlays_j94 b_24 b_26 l1 k5 grew8 passes9 i10 at13 in14 = some r) : Runs L F3b94 (hansomlaw36_SizePlays_h94 b_24 b_26 l1 k5 grew8 passes9 i10 at13 in14 v_0_24 v_26) (kB 1 (kS L F3c130 (LQ [] [1, 5, 6, 7, 8, 9, 10] [[24], [0, 24], [26]] (fun (x : (Sizes × (List Bool) × Bool × Int × Int)) (g : (Nat × Nat)) => hansomlaw36_SizePlays_h10 x.1 x.2.1 l1 k5 x.2.2.1 x.2.2.2.1 x.2.2.2.2 g.1 g.2) (hansomlaw36_SizePlays_P10 n_ l_ l1 k5) r))) := by
  unfold hansomlaw36_SizePlays_j94 at h
  refine Runs.seq ?_
  refine Runs.ops ?_
  refine RunAt.chunk 1 [⟨.d (.int .i64 0), []⟩] (by kernel_rfl) ?_
  refine RunAt.done (by kernel_rfl) ?_
  refine kS_nrm ?_
  refine Runs.canon (hansomlaw36_SizePlays_h96 b_24 b_26 l1 k5 grew8 passes9 i10 at13 in14 0 v_0_24 v_26) (Canon.nil (by kernel_rfl)) ?_
  exact hansomlaw36_SizePlays_j96_ok n_ l_ b_24 b_26 l1 k5 grew8 passes9 i10 at13 in14 0 v_0_24 v_26 r h
theorem hansomlaw36_SizePlays_j88_ok (n_ : Int) (l_ : (List Int)) (b_24 : Sizes) (b_26 : (List Bool)) (l1 : (List Int)) (k5 : Int) (grew8 : Bool) (passes9 : Int) (i10 : Int) (at13 : Int) (in14 : Bool) (want15 : Bool) (v_0_24 : Nat) (v_26 : Nat) (r : (Lp (Sizes × (List Bool) × Bool × Int × Int) (Bool ⊕ Unit))) (h : hansomlaw36_SizePlays_j88 b_24 b_26 l1 k5 grew8 passes9 i10 at13 in14 want15 = some r) : Runs L F3b88 (hansomlaw36_SizePlays_h88 b_24 b_26 l1 k5 grew8 passes9 i10 at13 in14 want15 v_0_24 v_26) (kB 1 (kS L F3c130 (LQ [] [1, 5, 6, 7, 8, 9, 10] [[24], [0, 24], [26]] (fun (x : (Sizes × (List Bool) × Bool × Int × Int)) (g : (Nat × Nat)) => hansomlaw36_SizePlays_h10 x.1 x.2.1 l1 k5 x.2.2.1 x.2.2.2.1 x.2.2.2.2 g.1 g.2) (hansomlaw36_SizePlays_P10 n_ l_ l1 k5) r))) := by
  unfold hansomlaw36_SizePlays_j88 at h
  refine Runs.seq ?_
  refine Runs.seq ?_
  refine Runs.ops ?_
  refine RunAt.chunk 1 [⟨.d (.bool want15), []⟩] (by kernel_rfl) ?_
  refine RunAt.done (by kernel_rfl) ?_
  refine kS_nrm ?_
  cases hb_12 : (want15 : Bool) with
  | true =>
    replace h := ite_t hb_12 h
    refine Runs.cond_t (by kernel_rfl) ?_
    refine Runs.ops ?_
    refine RunAt.chunk 2 [⟨.ref [26] v_26 0 (List.map D.bool b_26).length 1, []⟩, ⟨.d (.int .i64 at13), []⟩] (by kernel_rfl) ?_
    obtain ⟨z_5, hz_5, h⟩ := bind_s h
    refine RunAt.cut (some 111) (.iaddrS 1) [] none [.ref [26] v_26 0 (List.map D.bool b_26).length 1, .d (.int .i64 at13)] (.eref [26] v_26 (0 + (at13).toNat) 0) [] (by kernel_rfl) (by kernel_rfl) (by kernel_rfl) (cut_atR (e := D.bool) (l := b_26) hz_5 rfl) ?_
    refine RunAt.cut none (.store 1) [] none [.eref [26] v_26 (0 + (at13).toNat) 0, .d (.bool true)] (.tup []) [([26], some (.arr (List.map D.bool (List.set b_26 (at13).toNat true)) v_26 false))] (by kernel_rfl) (by kernel_rfl) (by kernel_rfl) (cut_setR (e := D.bool) (l := b_26) (y := z_5) (y' := true) (ds := [.bool true]) (by kernel_rfl) hz_5 (by kernel_rfl) (by kernel_rfl) (by kernel_rfl) (by kernel_rfl)) ?_
    refine RunAt.chunk 1 [⟨.d (.bool true), []⟩] (by kernel_rfl) ?_
    refine RunAt.done (by kernel_rfl) ?_
    refine kS_nrm ?_
    refine Runs.canon (hansomlaw36_SizePlays_h94 b_24 (List.set b_26 (at13).toNat true) l1 k5 true passes9 i10 at13 in14 v_0_24 v_26) (Canon.len (f := fun n => hansomlaw36_SizePlays_h94n b_24 (List.set b_26 (at13).toNat true) l1 k5 true passes9 i10 at13 in14 v_0_24 v_26 n) ((by simp only [List.length_map, List.length_set] : (List.map D.bool b_26).length = (List.map D.bool (List.set b_26 (at13).toNat true)).length)).symm (Canon.nil (by kernel_rfl))) ?_
    exact hansomlaw36_SizePlays_j94_ok n_ l_ b_24 (List.set b_26 (at13).toNat true) l1 k5 true passes9 i10 at13 in14 v_0_24 v_26 r h
  | false =>
    replace h := ite_f hb_12 h
    refine Runs.cond_f (by kernel_rfl) ?_
    refine Runs.skip ?_
    refine kS_nrm ?_
    refine Runs.canon (hansomlaw36_SizePlays_h94 b_24 b_26 l1 k5 grew8 passes9 i10 at13 in14 v_0_24 v_26) (Canon.nil (by kernel_rfl)) ?_
    exact hansomlaw36_SizePlays_j94_ok n_ l_ b_24 b_26 l1 k5 grew8 passes9 i10 at13 in14 v_0_24 v_26 r h
theorem hansomlaw36_SizePlays_j80_ok (n_ : Int) (l_ : (List Int)) (b_24 : Sizes) (b_26 : (List Bool)) (l1 : (List Int)) (k5 : Int) (grew8 : Bool) (passes9 : Int) (i10 : Int) (at13 : Int) (in14 : Bool) (want15 : Bool) (v_0_24 : Nat) (v_26 : Nat) (r : (Lp (Sizes × (List Bool) × Bool × Int × Int) (Bool ⊕ Unit))) (h : hansomlaw36_SizePlays_j80 b_24 b_26 l1 k5 grew8 passes9 i10 at13 in14 want15 = some r) : Runs L F3b80 (hansomlaw36_SizePlays_h80 b_24 b_26 l1 k5 grew8 passes9 i10 at13 in14 want15 v_0_24 v_26) (kB 1 (kS L F3c130 (LQ [] [1, 5, 6, 7, 8, 9, 10] [[24], [0, 24], [26]] (fun (x : (Sizes × (List Bool) × Bool × Int × Int)) (g : (Nat × Nat)) => hansomlaw36_SizePlays_h10 x.1 x.2.1 l1 k5 x.2.2.1 x.2.2.2.1 x.2.2.2.2 g.1 g.2) (hansomlaw36_SizePlays_P10 n_ l_ l1 k5) r))) := by
  unfold hansomlaw36_SizePlays_j80 at h
  refine Runs.seq ?_
  refine Runs.seq ?_
  refine Runs.ops ?_
  refine RunAt.chunk 2 [⟨.ptr [24] 0 0, []⟩, ⟨.d (.int .i64 at13), []⟩] (by kernel_rfl) ?_
  obtain ⟨r_3, hr_3, h⟩ := bind_s h
  have hc_3 := size_Sizes_Grow_L b_24 at13 r_3 hr_3
  refine RunAt.cut (some 105) (.callf 17) [] none [.ptr [24] 0 0, .d (.int .i64 at13)] (.d (.bool r_3.1)) [([0, 24], some (.arr (List.map D.bool []) (v_0_24 + 1) false)), ([0, 24], some (.arr (List.map D.bool r_3.2.long) ((v_0_24 + 1) + 1) false)), ([24], some (.cells [.ref [0, 24] ((v_0_24 + 1) + 1) 0 (List.map D.bool r_3.2.long).length 1, .d (.bool r_3.2.grew), .d (.int .i64 r_3.2.pass)] 0))] (by kernel_rfl) (by kernel_rfl) (by kernel_rfl) (cut_call (call_of (ws := [([0, 24], some (.arr (List.map D.bool []) (v_0_24 + 1) false))]) (us := [([0, 24], some (.arr (List.map D.bool []) (v_0_24 + 1) false)), ([0, 24], some (.arr (List.map D.bool r_3.2.long) ((v_0_24 + 1) + 1) false)), ([24], some (.cells [.ref [0, 24] ((v_0_24 + 1) + 1) 0 (List.map D.bool r_3.2.long).length 1, .d (.bool r_3.2.grew), .d (.int .i64 r_3.2.pass)] 0))]) (by kernel_rfl) (gives_cons (ws := [([0, 24], some (.arr (List.map D.bool []) (v_0_24 + 1) false))]) (give_ptr (by kernel_rfl) (by kernel_rfl) (gcs_own (id := [0, 24]) (v := v_0_24) (fz := false) (es := List.map D.bool b_24.long) (by kernel_rfl) (by kernel_rfl) (by kernel_rfl) rfl (gcs_d (gcs_d gcs_nil)))) (gives_cons (ws := []) (give_same (by kernel_rfl)) gives_nil)) hc_3 (by kernel_rfl) (by kernel_rfl))) ?_
  refine RunAt.chunk 2 [⟨.d (.bool want15), []⟩, ⟨.d (.bool (r_3.1 != want15)), []⟩] (by kernel_rfl) ?_
  refine RunAt.done (by kernel_rfl) ?_
  refine kS_nrm ?_
  cases hb_11 : ((r_3.1 != want15) : Bool) with
  | true =>
    replace h := ite_t hb_11 h
    refine Runs.cond_t (by kernel_rfl) ?_
    refine Runs.seq ?_
    refine Runs.ops ?_
    refine RunAt.chunk 1 [⟨.d (.bool false), []⟩] (by kernel_rfl) ?_
    refine RunAt.done (by kernel_rfl) ?_
    refine kS_nrm ?_
    refine Runs.ret ?_
    refine kS_ret ?_
    refine kB_ret ?_
    refine kS_ret ?_
    obtain rfl := Option.some.inj h
    exact ⟨nofun, rfl, (by kernel_rfl)⟩
  | false =>
    replace h := ite_f hb_11 h
    refine Runs.cond_f (by kernel_rfl) ?_
    refine Runs.skip ?_
    refine kS_nrm ?_
    refine Runs.canon (hansomlaw36_SizePlays_h88 r_3.2 b_26 l1 k5 grew8 passes9 i10 at13 in14 want15 ((v_0_24 + 1) + 1) v_26) (Canon.nil (by kernel_rfl)) ?_
    exact hansomlaw36_SizePlays_j88_ok n_ l_ r_3.2 b_26 l1 k5 grew8 passes9 i10 at13 in14 want15 ((v_0_24 + 1) + 1) v_26 r h
theorem hansomlaw36_SizePlays_j68_ok (n_ : Int) (l_ : (List Int)) (b_24 : Sizes) (b_26 : (List Bool)) (l1 : (List Int)) (k5 : Int) (grew8 : Bool) (passes9 : Int) (i10 : Int) (at13 : Int) (in14 : Bool) (want15 : Bool) (j16 : Int) (v_0_24 : Nat) (v_26 : Nat) (r : (Lp (Sizes × (List Bool) × Bool × Int × Int) (Bool ⊕ Unit))) (h : hansomlaw36_SizePlays_j68 b_24 b_26 l1 k5 grew8 passes9 i10 at13 in14 want15 j16 = some r) : Runs L F3b68 (hansomlaw36_SizePlays_h68 b_24 b_26 l1 k5 grew8 passes9 i10 at13 in14 want15 j16 v_0_24 v_26) (kS L F3c80 (kB 1 (kS L F3c130 (LQ [] [1, 5, 6, 7, 8, 9, 10] [[24], [0, 24], [26]] (fun (x : (Sizes × (List Bool) × Bool × Int × Int)) (g : (Nat × Nat)) => hansomlaw36_SizePlays_h10 x.1 x.2.1 l1 k5 x.2.2.1 x.2.2.2.1 x.2.2.2.2 g.1 g.2) (hansomlaw36_SizePlays_P10 n_ l_ l1 k5) r)))) := by
  unfold hansomlaw36_SizePlays_j68 at h
  refine Runs.block ?_
  obtain ⟨e_1, he_1, h⟩ := bind_s h
  refine Runs.loop (fun x : (Bool × Int) => hansomlaw36_SizePlays_l69 b_24 b_26 l1 k5 grew8 passes9 i10 at13 in14 x.1 x.2) (fun (x : (Bool × Int)) (g : (Nat × Nat)) => hansomlaw36_SizePlays_h69 b_24 b_26 l1 k5 grew8 passes9 i10 at13 in14 x.1 x.2 g.1 g.2) (hansomlaw36_SizePlays_P69 n_ l_ b_24 b_26 l1 k5 grew8 passes9 i10 at13 in14) (fun x g r hr => hansomlaw36_SizePlays_l69_ok n_ l_ b_24 b_26 l1 k5 grew8 passes9 i10 at13 in14 x.1 x.2 g.1 g.2 r hr) (v_0_24, v_26) he_1 (Canon.nil (by kernel_rfl)) ?_
  rintro ⟨o, s⟩ hp
  obtain ⟨ho, g_1, hk_1⟩ := hp
  have ho' : o = .exit 2 := ho
  subst ho'
  refine kB_hit ?_
  refine kS_nrm ?_
  refine Runs.canon _ hk_1 ?_
  exact hansomlaw36_SizePlays_j80_ok n_ l_ b_24 b_26 l1 k5 grew8 passes9 i10 at13 in14 e_1 g_1.1 g_1.2 r h
theorem hansomlaw36_SizePlays_j65_ok (n_ : Int) (l_ : (List Int)) (b_24 : Sizes) (b_26 : (List Bool)) (l1 : (List Int)) (k5 : Int) (grew8 : Bool) (passes9 : Int) (i10 : Int) (at13 : Int) (in14 : Bool) (want15 : Bool) (v_0_24 : Nat) (v_26 : Nat) (r : (Lp (Sizes × (List Bool) × Bool × Int × Int) (Bool ⊕ Unit))) (h : hansomlaw36_SizePlays_j65 b_24 b_26 l1 k5 grew8 passes9 i10 at13 in14 want15 = some r) : Runs L F3b65 (hansomlaw36_SizePlays_h65 b_24 b_26 l1 k5 grew8 passes9 i10 at13 in14 want15 v_0_24 v_26) (kB 1 (kS L F3c130 (LQ [] [1, 5, 6, 7, 8, 9, 10] [[24], [0, 24], [26]] (fun (x : (Sizes × (List Bool) × Bool × Int × Int)) (g : (Nat × Nat)) => hansomlaw36_SizePlays_h10 x.1 x.2.1 l1 k5 x.2.2.1 x.2.2.2.1 x.2.2.2.2 g.1 g.2) (hansomlaw36_SizePlays_P10 n_ l_ l1 k5) r))) := by
  unfold hansomlaw36_SizePlays_j65 at h
  refine Runs.seq ?_
  refine Runs.seq ?_
  refine Runs.ops ?_
  refine RunAt.chunk 1 [⟨.d (.int .i64 0), []⟩] (by kernel_rfl) ?_
  refine RunAt.done (by kernel_rfl) ?_
  refine kS_nrm ?_
  refine Runs.canon (hansomlaw36_SizePlays_h68 b_24 b_26 l1 k5 grew8 passes9 i10 at13 in14 want15 0 v_0_24 v_26) (Canon.nil (by kernel_rfl)) ?_
  exact hansomlaw36_SizePlays_j68_ok n_ l_ b_24 b_26 l1 k5 grew8 passes9 i10 at13 in14 want15 0 v_0_24 v_26 r h
theorem hansomlaw36_SizePlays_j63_ok (n_ : Int) (l_ : (List Int)) (b_24 : Sizes) (b_26 : (List Bool)) (l1 : (List Int)) (k5 : Int) (grew8 : Bool) (passes9 : Int) (i10 : Int) (at13 : Int) (in14 : Bool) (v_0_24 : Nat) (v_26 : Nat) (r : (Lp (Sizes × (List Bool) × Bool × Int × Int) (Bool ⊕ Unit))) (h : hansomlaw36_SizePlays_j63 b_24 b_26 l1 k5 grew8 passes9 i10 at13 in14 = some r) : Runs L F3b63 (hansomlaw36_SizePlays_h63 b_24 b_26 l1 k5 grew8 passes9 i10 at13 in14 v_0_24 v_26) (kB 1 (kS L F3c130 (LQ [] [1, 5, 6, 7, 8, 9, 10] [[24], [0, 24], [26]] (fun (x : (Sizes × (List Bool) × Bool × Int × Int)) (g : (Nat × Nat)) => hansomlaw36_SizePlays_h10 x.1 x.2.1 l1 k5 x.2.2.1 x.2.2.2.1 x.2.2.2.2 g.1 g.2) (hansomlaw36_SizePlays_P10 n_ l_ l1 k5) r))) := by
  unfold hansomlaw36_SizePlays_j63 at h
  refine Runs.seq ?_
  refine Runs.ops ?_
  refine RunAt.chunk 1 [⟨.d (.bool false), []⟩] (by kernel_rfl) ?_
  refine RunAt.done (by kernel_rfl) ?_
  refine kS_nrm ?_
  refine Runs.canon (hansomlaw36_SizePlays_h65 b_24 b_26 l1 k5 grew8 passes9 i10 at13 in14 false v_0_24 v_26) (Canon.nil (by kernel_rfl)) ?_
  exact hansomlaw36_SizePlays_j65_ok n_ l_ b_24 b_26 l1 k5 grew8 passes9 i10 at13 in14 false v_0_24 v_26 r h
theorem hansomlaw36_SizePlays_j61_ok (n_ : Int) (l_ : (List Int)) (b_24 : Sizes) (b_26 : (List Bool)) (l1 : (List Int)) (k5 : Int) (grew8 : Bool) (passes9 : Int) (i10 : Int) (at13 : Int) (v_0_24 : Nat) (v_26 : Nat) (r : (Lp (Sizes × (List Bool) × Bool × Int × Int) (Bool ⊕ Unit))) (h : hansomlaw36_SizePlays_j61 b_24 b_26 l1 k5 grew8 passes9 i10 at13 = some r) : Runs L F3b61 (hansomlaw36_SizePlays_h61 b_24 b_26 l1 k5 grew8 passes9 i10 at13 v_0_24 v_26) (kB 1 (kS L F3c130 (LQ [] [1, 5, 6, 7, 8, 9, 10] [[24], [0, 24], [26]] (fun (x : (Sizes × (List Bool) × Bool × Int × Int)) (g : (Nat × Nat)) => hansomlaw36_SizePlays_h10 x.1 x.2.1 l1 k5 x.2.2.1 x.2.2.2.1 x.2.2.2.2 g.1 g.2) (hansomlaw36_SizePlays_P10 n_ l_ l1 k5) r))) := by
  unfold hansomlaw36_SizePlays_j61 at h
  refine Runs.seq ?_
  refine Runs.ops ?_
  refine RunAt.chunk 3 [⟨.d (.int .i64 at13), []⟩, ⟨.d (.bool (decide (at13 ≥ 0))), []⟩, ⟨.d (.bool (decide (at13 ≥ 0))), []⟩] (by kernel_rfl) ?_
  cases hb_10 : ((decide (at13 ≥ 0)) : Bool) with
  | true =>
    replace h := ite_t hb_10 h
    refine RunAt.chunk 5 [⟨.d (.int .i64 at13), []⟩, ⟨.d (.int .i64 k5), []⟩, ⟨.d (.bool (decide (at13 < k5))), []⟩, ⟨.d (.bool (decide (at13 < k5))), []⟩, ⟨.d (.bool (decide (at13 < k5))), []⟩] (by kernel_rfl) ?_
    refine RunAt.done (by kernel_rfl) ?_
    refine kS_nrm ?_
    refine Runs.canon (hansomlaw36_SizePlays_h63 b_24 b_26 l1 k5 grew8 passes9 i10 at13 (decide (at13 < k5)) v_0_24 v_26) (Canon.nil (by kernel_rfl)) ?_
    exact hansomlaw36_SizePlays_j63_ok n_ l_ b_24 b_26 l1 k5 grew8 passes9 i10 at13 (decide (at13 < k5)) v_0_24 v_26 r h
  | false =>
    replace h := ite_f hb_10 h
    refine RunAt.chunk 5 [⟨.tup [], []⟩, ⟨.tup [], []⟩, ⟨.tup [], []⟩, ⟨.d (.bool false), []⟩, ⟨.d (.bool false), []⟩] (by kernel_rfl) ?_
    refine RunAt.done (by kernel_rfl) ?_
    refine kS_nrm ?_
    refine Runs.canon (hansomlaw36_SizePlays_h63 b_24 b_26 l1 k5 grew8 passes9 i10 at13 false v_0_24 v_26) (Canon.nil (by kernel_rfl)) ?_
    exact hansomlaw36_SizePlays_j63_ok n_ l_ b_24 b_26 l1 k5 grew8 passes9 i10 at13 false v_0_24 v_26 r h
theorem hansomlaw36_SizePlays_l10_ok (n_ : Int) (l_ : (List Int)) (b_24 : Sizes) (b_26 : (List Bool)) (l1 : (List Int)) (k5 : Int) (grew8 : Bool) (passes9 : Int) (i10 : Int) (v_0_24 : Nat) (v_26 : Nat) (r : (Lp (Sizes × (List Bool) × Bool × Int × Int) (Bool ⊕ Unit))) (h : hansomlaw36_SizePlays_l10 b_24 b_26 l1 k5 grew8 passes9 i10 = some r) : Runs L F3l10 (hansomlaw36_SizePlays_h10 b_24 b_26 l1 k5 grew8 passes9 i10 v_0_24 v_26) (LQ [] [1, 5, 6, 7, 8, 9, 10] [[24], [0, 24], [26]] (fun (x : (Sizes × (List Bool) × Bool × Int × Int)) (g : (Nat × Nat)) => hansomlaw36_SizePlays_h10 x.1 x.2.1 l1 k5 x.2.2.1 x.2.2.2.1 x.2.2.2.2 g.1 g.2) (hansomlaw36_SizePlays_P10 n_ l_ l1 k5) r) := by
  unfold hansomlaw36_SizePlays_l10 at h
  refine Runs.seq ?_
  refine Runs.seq ?_
  refine Runs.ops ?_
  refine RunAt.chunk 2 [⟨.d (.int .i64 i10), []⟩, ⟨.d (.sl (List.map (D.int .i64) l1)), []⟩] (by kernel_rfl) ?_
  refine RunAt.cut (some 29) .lenL [] none [.d (.sl (List.map (D.int .i64) l1))] (.d (.int .i64 (l1.length : Int))) [] (by kernel_rfl) (by kernel_rfl) (by kernel_rfl) (cut_len _) ?_
  refine RunAt.chunk 2 [⟨.d (.bool (decide (i10 < (l1.length : Int)))), []⟩, ⟨.d (.bool (decide (i10 < (l1.length : Int)))), []⟩] (by kernel_rfl) ?_
  cases hb_1 : ((decide (i10 < (l1.length : Int))) : Bool) with
  | true =>
    replace h := ite_t hb_1 h
    refine RunAt.chunk 3 [⟨.d (.int .i64 i10), []⟩, ⟨.d (.bool (decide (i10 < 80))), []⟩, ⟨.d (.bool (decide (i10 < 80))), []⟩] (by kernel_rfl) ?_
    refine RunAt.done (by kernel_rfl) ?_
    refine kS_nrm ?_
    cases hb_2 : ((decide (i10 < 80)) : Bool) with
    | true =>
      replace h := ite_t hb_2 h
      refine Runs.cond_t (by kernel_rfl) ?_
      refine Runs.skip ?_
      refine kS_nrm ?_
      refine Runs.seq ?_
      refine Runs.block ?_
      refine Runs.seq ?_
      refine Runs.seq ?_
      refine Runs.ops ?_
      refine RunAt.chunk 2 [⟨.d (.sl (List.map (D.int .i64) l1)), []⟩, ⟨.d (.int .i64 i10), []⟩] (by kernel_rfl) ?_
      obtain ⟨z_2, hz_2, h⟩ := bind_s h
      refine RunAt.cut (some 39) (.iaddrS 1) [] none [.d (.sl (List.map (D.int .i64) l1)), .d (.int .i64 i10)] (.elt (.int .i64 z_2) 0) [] (by kernel_rfl) (by kernel_rfl) (by kernel_rfl) (cut_at hz_2 (fun _ => rfl)) ?_
      refine RunAt.chunk 3 [⟨.d (.int .i64 z_2), []⟩, ⟨.d (.int .i64 (bitsOp .and .i64 z_2 3)), []⟩, ⟨.d (.bool ((bitsOp .and .i64 z_2 3) == 3)), []⟩] (by kernel_rfl) ?_
      refine RunAt.done (by kernel_rfl) ?_
      refine kS_nrm ?_
      cases hb_3 : (((bitsOp .and .i64 z_2 3) == 3) : Bool) with
      | true =>
        replace h := ite_t hb_3 h
        refine Runs.cond_t (by kernel_rfl) ?_
        refine Runs.seq ?_
        refine Runs.ops ?_
        refine RunAt.chunk 1 [⟨.ptr [24] 0 0, []⟩] (by kernel_rfl) ?_
        obtain ⟨r_2, hr_2, h⟩ := bind_s h
        have hc_2 := size_Sizes_Next_L b_24 r_2 hr_2
        refine RunAt.cut (some 45) (.callf 16) [] none [.ptr [24] 0 0] (.tup [.d (.bool r_2.1), .d (.int .i64 r_2.2.1)]) [([0, 24], some (.arr (List.map D.bool []) (v_0_24 + 1) false)), ([0, 24], some (.arr (List.map D.bool r_2.2.2.long) ((v_0_24 + 1) + 1) false)), ([24], some (.cells [.ref [0, 24] ((v_0_24 + 1) + 1) 0 (List.map D.bool r_2.2.2.long).length 1, .d (.bool r_2.2.2.grew), .d (.int .i64 r_2.2.2.pass)] 0))] (by kernel_rfl) (by kernel_rfl) (by kernel_rfl) (cut_call (call_of (ws := [([0, 24], some (.arr (List.map D.bool []) (v_0_24 + 1) false))]) (us := [([0, 24], some (.arr (List.map D.bool []) (v_0_24 + 1) false)), ([0, 24], some (.arr (List.map D.bool r_2.2.2.long) ((v_0_24 + 1) + 1) false)), ([24], some (.cells [.ref [0, 24] ((v_0_24 + 1) + 1) 0 (List.map D.bool r_2.2.2.long).length 1, .d (.bool r_2.2.2.grew), .d (.int .i64 r_2.2.2.pass)] 0))]) (by kernel_rfl) (gives_cons (ws := [([0, 24], some (.arr (List.map D.bool []) (v_0_24 + 1) false))]) (give_ptr (by kernel_rfl) (by kernel_rfl) (gcs_own (id := [0, 24]) (v := v_0_24) (fz := false) (es := List.map D.bool b_24.long) (by kernel_rfl) (by kernel_rfl) (by kernel_rfl) rfl (gcs_d (gcs_d gcs_nil)))) gives_nil) hc_2 (by kernel_rfl) (by kernel_rfl))) ?_
        refine RunAt.chunk 5 [⟨.tup [.d (.bool r_2.1), .d (.int .i64 r_2.2.1)], []⟩, ⟨.d (.bool r_2.1), []⟩, ⟨.d (.int .i64 r_2.2.1), []⟩, ⟨.d (.bool r_2.1), []⟩, ⟨.d (.int .i64 r_2.2.1), []⟩] (by kernel_rfl) ?_
        refine RunAt.done (by kernel_rfl) ?_
        refine kS_nrm ?_
        refine Runs.seq ?_
        refine Runs.seq ?_
        refine Runs.ops ?_
        refine RunAt.chunk 2 [⟨.d (.int .i64 passes9), []⟩, ⟨.d (.bool (decide (passes9 ≥ 30))), []⟩] (by kernel_rfl) ?_
        refine RunAt.done (by kernel_rfl) ?_
        refine kS_nrm ?_
        cases hb_4 : ((decide (passes9 ≥ 30)) : Bool) with
        | true =>
          replace h := ite_t hb_4 h
          refine Runs.cond_t (by kernel_rfl) ?_
          refine Runs.seq ?_
          refine Runs.seq ?_
          refine Runs.ops ?_
          refine RunAt.chunk 3 [⟨.d (.int .i64 r_2.2.1), []⟩, ⟨.d (.bool (r_2.2.1 != 360)), []⟩, ⟨.d (.bool (r_2.2.1 != 360)), []⟩] (by kernel_rfl) ?_
          cases hb_5 : ((r_2.2.1 != 360) : Bool) with
          | true =>
            replace h := ite_t hb_5 h
            refine RunAt.chunk 2 [⟨.tup [], []⟩, ⟨.d (.bool true), []⟩] (by kernel_rfl) ?_
            refine RunAt.done (by kernel_rfl) ?_
            refine kS_nrm ?_
            refine Runs.cond_t (by kernel_rfl) ?_
            refine Runs.seq ?_
            refine Runs.ops ?_
            refine RunAt.chunk 1 [⟨.d (.bool false), []⟩] (by kernel_rfl) ?_
            refine RunAt.done (by kernel_rfl) ?_
            refine kS_nrm ?_
            refine Runs.ret ?_
            refine kS_ret ?_
            refine kS_ret ?_
            refine kS_ret ?_
            refine kB_ret ?_
            refine kS_ret ?_
            obtain rfl := Option.some.inj h
            exact ⟨nofun, rfl, (by kernel_rfl)⟩
          | false =>
            replace h := ite_f hb_5 h
            refine RunAt.chunk 2 [⟨.d (.bool r_2.1), []⟩, ⟨.d (.bool r_2.1), []⟩] (by kernel_rfl) ?_
            refine RunAt.done (by kernel_rfl) ?_
            refine kS_nrm ?_
            cases hb_6 : (r_2.1 : Bool) with
            | true =>
              replace h := ite_t hb_6 h
              refine Runs.cond_t (by kernel_rfl) ?_
              refine Runs.seq ?_
              refine Runs.ops ?_
              refine RunAt.chunk 1 [⟨.d (.bool false), []⟩] (by kernel_rfl) ?_
              refine RunAt.done (by kernel_rfl) ?_
              refine kS_nrm ?_
              refine Runs.ret ?_
              refine kS_ret ?_
              refine kS_ret ?_
              refine kS_ret ?_
              refine kB_ret ?_
              refine kS_ret ?_
              obtain rfl := Option.some.inj h
              exact ⟨nofun, rfl, (by kernel_rfl)⟩
            | false =>
              replace h := ite_f hb_6 h
              refine Runs.cond_f (by kernel_rfl) ?_
              refine Runs.skip ?_
              refine kS_nrm ?_
              refine Runs.exit ?_
              refine kS_exit ?_
              refine kS_exit ?_
              refine kB_hit ?_
              refine kS_nrm ?_
              refine Runs.ops ?_
              refine RunAt.chunk 3 [⟨.d (.int .i64 i10), []⟩, ⟨.d (.int .i64 (IntKind.wrap .i64 (i10 + 1))), []⟩, ⟨.d (.int .i64 (IntKind.wrap .i64 (i10 + 1))), []⟩] (by kernel_rfl) ?_
              refine RunAt.done (by kernel_rfl) ?_
              obtain rfl := Option.some.inj h
              exact ⟨rfl, (((v_0_24 + 1) + 1), v_26), (Canon.nil (by kernel_rfl))⟩
        | false =>
          replace h := ite_f hb_4 h
          refine Runs.cond_f (by kernel_rfl) ?_
          refine Runs.skip ?_
          refine kS_nrm ?_
          refine Runs.seq ?_
          refine Runs.seq ?_
          refine Runs.ops ?_
          refine RunAt.chunk 3 [⟨.d (.int .i64 r_2.2.1), []⟩, ⟨.d (.bool (r_2.2.1 != 0)), []⟩, ⟨.d (.bool (r_2.2.1 != 0)), []⟩] (by kernel_rfl) ?_
          cases hb_7 : ((r_2.2.1 != 0) : Bool) with
          | true =>
            replace h := ite_t hb_7 h
            refine RunAt.chunk 4 [⟨.tup [], []⟩, ⟨.tup [], []⟩, ⟨.tup [], []⟩, ⟨.d (.bool true), []⟩] (by kernel_rfl) ?_
            refine RunAt.done (by kernel_rfl) ?_
            refine kS_nrm ?_
            refine Runs.cond_t (by kernel_rfl) ?_
            refine Runs.seq ?_
            refine Runs.ops ?_
            refine RunAt.chunk 1 [⟨.d (.bool false), []⟩] (by kernel_rfl) ?_
            refine RunAt.done (by kernel_rfl) ?_
            refine kS_nrm ?_
            refine Runs.ret ?_
            refine kS_ret ?_
            refine kS_ret ?_
            refine kB_ret ?_
            refine kS_ret ?_
            obtain rfl := Option.some.inj h
            exact ⟨nofun, rfl, (by kernel_rfl)⟩
          | false =>
            replace h := ite_f hb_7 h
            refine RunAt.chunk 4 [⟨.d (.bool r_2.1), []⟩, ⟨.d (.bool grew8), []⟩, ⟨.d (.bool (r_2.1 != grew8)), []⟩, ⟨.d (.bool (r_2.1 != grew8)), []⟩] (by kernel_rfl) ?_
            refine RunAt.done (by kernel_rfl) ?_
            refine kS_nrm ?_
            cases hb_8 : ((r_2.1 != grew8) : Bool) with
            | true =>
              replace h := ite_t hb_8 h
              refine Runs.cond_t (by kernel_rfl) ?_
              refine Runs.seq ?_
              refine Runs.ops ?_
              refine RunAt.chunk 1 [⟨.d (.bool false), []⟩] (by kernel_rfl) ?_
              refine RunAt.done (by kernel_rfl) ?_
              refine kS_nrm ?_
              refine Runs.ret ?_
              refine kS_ret ?_
              refine kS_ret ?_
              refine kB_ret ?_
              refine kS_ret ?_
              obtain rfl := Option.some.inj h
              exact ⟨nofun, rfl, (by kernel_rfl)⟩
            | false =>
              replace h := ite_f hb_8 h
              refine Runs.cond_f (by kernel_rfl) ?_
              refine Runs.skip ?_
              refine kS_nrm ?_
              refine Runs.seq ?_
              refine Runs.ops ?_
              refine RunAt.chunk 1 [⟨.d (.bool false), []⟩] (by kernel_rfl) ?_
              refine RunAt.done (by kernel_rfl) ?_
              refine kS_nrm ?_
              refine Runs.seq ?_
              refine Runs.ops ?_
              refine RunAt.chunk 3 [⟨.d (.int .i64 passes9), []⟩, ⟨.d (.int .i64 (IntKind.wrap .i64 (passes9 + 1))), []⟩, ⟨.d (.int .i64 (IntKind.wrap .i64 (passes9 + 1))), []⟩] (by kernel_rfl) ?_
              refine RunAt.done (by kernel_rfl) ?_
              refine kS_nrm ?_
              refine Runs.exit ?_
              refine kS_exit ?_
              refine kB_hit ?_
              refine kS_nrm ?_
              refine Runs.ops ?_
              refine RunAt.chunk 3 [⟨.d (.int .i64 i10), []⟩, ⟨.d (.int .i64 (IntKind.wrap .i64 (i10 + 1))), []⟩, ⟨.d (.int .i64 (IntKind.wrap .i64 (i10 + 1))), []⟩] (by kernel_rfl) ?_
              refine RunAt.done (by kernel_rfl) ?_
              obtain rfl := Option.some.inj h
              exact ⟨rfl, (((v_0_24 + 1) + 1), v_26), (Canon.nil (by kernel_rfl))⟩
      | false =>
        replace h := ite_f hb_3 h
        refine Runs.cond_f (by kernel_rfl) ?_
        refine Runs.skip ?_
        refine kS_nrm ?_
        refine Runs.seq ?_
        refine Runs.ops ?_
        refine RunAt.chunk 2 [⟨.d (.sl (List.map (D.int .i64) l1)), []⟩, ⟨.d (.int .i64 i10), []⟩] (by kernel_rfl) ?_
        obtain ⟨z_3, hz_3, h⟩ := bind_s h
        refine RunAt.cut (some 66) (.iaddrS 1) [] none [.d (.sl (List.map (D.int .i64) l1)), .d (.int .i64 i10)] (.elt (.int .i64 z_3) 0) [] (by kernel_rfl) (by kernel_rfl) (by kernel_rfl) (cut_at hz_3 (fun _ => rfl)) ?_
        refine RunAt.chunk 3 [⟨.d (.int .i64 z_3), []⟩, ⟨.d (.int .i64 (shrI .i64 z_3 2)), []⟩, ⟨.d (.int .i64 (shrI .i64 z_3 2)), []⟩] (by kernel_rfl) ?_
        refine RunAt.done (by kernel_rfl) ?_
        refine kS_nrm ?_
        refine Runs.seq ?_
        refine Runs.seq ?_
        refine Runs.ops ?_
        refine RunAt.chunk 3 [⟨.d (.int .i64 i10), []⟩, ⟨.d (.int .i64 (bitsOp .and .i64 i10 7)), []⟩, ⟨.d (.bool (decide ((bitsOp .and .i64 i10 7) > 0))), []⟩] (by kernel_rfl) ?_
        refine RunAt.done (by kernel_rfl) ?_
        refine kS_nrm ?_
        cases hb_9 : ((decide ((bitsOp .and .i64 i10 7) > 0)) : Bool) with
        | true =>
          replace h := ite_t hb_9 h
          refine Runs.cond_t (by kernel_rfl) ?_
          refine Runs.ops ?_
          refine RunAt.chunk 2 [⟨.d (.sl (List.map (D.int .i64) l1)), []⟩, ⟨.d (.int .i64 i10), []⟩] (by kernel_rfl) ?_
          obtain ⟨z_4, hz_4, h⟩ := bind_s h
          refine RunAt.cut (some 74) (.iaddrS 1) [] none [.d (.sl (List.map (D.int .i64) l1)), .d (.int .i64 i10)] (.elt (.int .i64 z_4) 0) [] (by kernel_rfl) (by kernel_rfl) (by kernel_rfl) (cut_at hz_4 (fun _ => rfl)) ?_
          refine RunAt.chunk 4 [⟨.d (.int .i64 z_4), []⟩, ⟨.d (.int .i64 (shrI .i64 z_4 2)), []⟩, ⟨.d (.int .i64 (bitsOp .and .i64 (shrI .i64 z_4 2) 15)), []⟩, ⟨.d (.int .i64 (bitsOp .and .i64 (shrI .i64 z_4 2) 15)), []⟩] (by kernel_rfl) ?_
          refine RunAt.done (by kernel_rfl) ?_
          refine kS_nrm ?_
          refine Runs.canon (hansomlaw36_SizePlays_h61 b_24 b_26 l1 k5 grew8 passes9 i10 (bitsOp .and .i64 (shrI .i64 z_4 2) 15) v_0_24 v_26) (Canon.nil (by kernel_rfl)) ?_
          exact hansomlaw36_SizePlays_j61_ok n_ l_ b_24 b_26 l1 k5 grew8 passes9 i10 (bitsOp .and .i64 (shrI .i64 z_4 2) 15) v_0_24 v_26 r h
        | false =>
          replace h := ite_f hb_9 h
          refine Runs.cond_f (by kernel_rfl) ?_
          refine Runs.skip ?_
          refine kS_nrm ?_
          refine Runs.canon (hansomlaw36_SizePlays_h61 b_24 b_26 l1 k5 grew8 passes9 i10 (shrI .i64 z_3 2) v_0_24 v_26) (Canon.nil (by kernel_rfl)) ?_
          exact hansomlaw36_SizePlays_j61_ok n_ l_ b_24 b_26 l1 k5 grew8 passes9 i10 (shrI .i64 z_3 2) v_0_24 v_26 r h
    | false =>
      replace h := ite_f hb_2 h
      refine Runs.cond_f (by kernel_rfl) ?_
      refine Runs.exit ?_
      refine kS_exit ?_
      obtain rfl := Option.some.inj h
      exact ⟨nofun, rfl, (), (Canon.nil (by kernel_rfl))⟩
  | false =>
    replace h := ite_f hb_1 h
    refine RunAt.chunk 3 [⟨.tup [], []⟩, ⟨.tup [], []⟩, ⟨.d (.bool false), []⟩] (by kernel_rfl) ?_
    refine RunAt.done (by kernel_rfl) ?_
    refine kS_nrm ?_
    refine Runs.cond_f (by kernel_rfl) ?_
    refine Runs.exit ?_
    refine kS_exit ?_
    obtain rfl := Option.some.inj h
    exact ⟨nofun, rfl, (), (Canon.nil (by kernel_rfl))⟩
theorem hansomlaw36_SizePlays_ok (n_ : Int) (l_ : (List Int)) (r : Bool) (h : hansomlaw36_SizePlays n_ l_ = some r) : Runs L F3.body ⟨tmOf [.d (.int .i64 n_), .d (.sl (List.map (D.int .i64) l_))] 0, updW (fun _ => none) []⟩ (hansomlaw36_SizePlays_Q n_ l_ r) := by
  unfold hansomlaw36_SizePlays at h
  refine Runs.seq ?_
  refine Runs.ops ?_
  refine RunAt.chunk 1 [⟨.d (.bool false), []⟩] (by kernel_rfl) ?_
  refine RunAt.done (by kernel_rfl) ?_
  refine kS_nrm ?_
  refine Runs.seq ?_
  refine Runs.ops ?_
  refine RunAt.chunk 5 [⟨.d (.int .i64 n_), []⟩, ⟨.d (.int .i64 (bitsOp .and .i64 n_ 15)), []⟩, ⟨.d (.int .i64 (mxI (bitsOp .and .i64 n_ 15) 0)), []⟩, ⟨.d (.int .i64 (mnI (mxI (bitsOp .and .i64 n_ 15) 0) 600)), []⟩, ⟨.d (.int .i64 (mnI (mxI (bitsOp .and .i64 n_ 15) 0) 600)), []⟩] (by kernel_rfl) ?_
  refine RunAt.done (by kernel_rfl) ?_
  refine kS_nrm ?_
  refine Runs.seq ?_
  refine Runs.ops ?_
  refine RunAt.chunk 1 [⟨.d (.int .i64 (mnI (mxI (bitsOp .and .i64 n_ 15) 0) 600)), []⟩] (by kernel_rfl) ?_
  obtain ⟨r_1, hr_1, h⟩ := bind_s h
  have hc_1 := size_New_L (mnI (mxI (bitsOp .and .i64 n_ 15) 0) 600) r_1 hr_1
  refine RunAt.cut (some 24) (.callf 15) [[26]] (some []) [.d (.int .i64 (mnI (mxI (bitsOp .and .i64 n_ 15) 0) 600))] (.ptr [24] 0 0) [([0, 24], some (.arr (List.map D.bool r_1.long) 0 false)), ([24], some (.cells [.ref [0, 24] 0 0 (List.map D.bool r_1.long).length 1, .d (.bool r_1.grew), .d (.int .i64 r_1.pass)] 0))] (by kernel_rfl) (by kernel_rfl) (by kernel_rfl) (cut_call (call_of (ws := []) (us := []) (by kernel_rfl) (gives_cons (ws := []) (give_same (by kernel_rfl)) gives_nil) hc_1 (by kernel_rfl) (by kernel_rfl))) ?_
  refine RunAt.chunk 1 [⟨.d (.int .i64 (mnI (mxI (bitsOp .and .i64 n_ 15) 0) 600)), []⟩] (by kernel_rfl) ?_
  obtain ⟨z_1, hz_1, h⟩ := bind_s h
  refine RunAt.cut (some 26) (.mkslice (.bool false) 1) [[24]] none [.d (.int .i64 (mnI (mxI (bitsOp .and .i64 n_ 15) 0) 600)), .d (.int .i64 (mnI (mxI (bitsOp .and .i64 n_ 15) 0) 600))] (.ref [26] 0 0 (List.map D.bool z_1).length 1) [([26], some (.arr (List.map D.bool z_1) 0 false))] (by kernel_rfl) (by kernel_rfl) (by kernel_rfl) (cut_mk (e := D.bool) (z := false) hz_1 rfl (by kernel_rfl)) ?_
  refine RunAt.chunk 4 [⟨.ptr [24] 0 0, []⟩, ⟨.ref [26] 0 0 (List.map D.bool z_1).length 1, []⟩, ⟨.d (.bool false), []⟩, ⟨.d (.int .i64 0), []⟩] (by kernel_rfl) ?_
  refine RunAt.done (by kernel_rfl) ?_
  refine kS_nrm ?_
  refine Runs.seq ?_
  refine Runs.seq ?_
  refine Runs.ops ?_
  refine RunAt.chunk 1 [⟨.d (.int .i64 0), []⟩] (by kernel_rfl) ?_
  refine RunAt.done (by kernel_rfl) ?_
  refine kS_nrm ?_
  refine Runs.block ?_
  obtain ⟨e_1, he_1, h⟩ := bind_s h
  refine Runs.loop (fun x : (Sizes × (List Bool) × Bool × Int × Int) => hansomlaw36_SizePlays_l10 x.1 x.2.1 l_ (mnI (mxI (bitsOp .and .i64 n_ 15) 0) 600) x.2.2.1 x.2.2.2.1 x.2.2.2.2) (fun (x : (Sizes × (List Bool) × Bool × Int × Int)) (g : (Nat × Nat)) => hansomlaw36_SizePlays_h10 x.1 x.2.1 l_ (mnI (mxI (bitsOp .and .i64 n_ 15) 0) 600) x.2.2.1 x.2.2.2.1 x.2.2.2.2 g.1 g.2) (hansomlaw36_SizePlays_P10 n_ l_ l_ (mnI (mxI (bitsOp .and .i64 n_ 15) 0) 600)) (fun x g r hr => hansomlaw36_SizePlays_l10_ok n_ l_ x.1 x.2.1 l_ (mnI (mxI (bitsOp .and .i64 n_ 15) 0) 600) x.2.2.1 x.2.2.2.1 x.2.2.2.2 g.1 g.2 r hr) (0, 0) he_1 (Canon.nil (by kernel_rfl)) ?_
  rintro ⟨o, s⟩ hp
  cases e_1 with
  | inl e_2 =>
    obtain ⟨ho, hf⟩ := hp
    have ho' : o = .ret := ho
    subst ho'
    refine kB_ret ?_
    refine kS_ret ?_
    obtain rfl := Option.some.inj h
    exact ⟨Out.ret_ne, hf⟩
  | inr e_3 =>
    obtain ⟨ho, g_1, hk_1⟩ := hp
    have ho' : o = .exit 0 := ho
    subst ho'
    refine kB_hit ?_
    refine kS_nrm ?_
    refine Runs.canon _ hk_1 ?_
    refine Runs.seq ?_
    refine Runs.ops ?_
    obtain ⟨r_2, hr_2, h⟩ := bind_s h
    have hc_2 := hansomlaw36_awake_L r_2 hr_2
    refine RunAt.cut (some 152) (.callf 21) [] none [] (.d (.bool r_2)) [] (by kernel_rfl) (by kernel_rfl) (by kernel_rfl) (cut_call (call_of (ws := []) (us := []) (by kernel_rfl) (by kernel_rfl) hc_2 (by kernel_rfl) (by kernel_rfl))) ?_
    refine RunAt.chunk 1 [⟨.d (.bool r_2), []⟩] (by kernel_rfl) ?_
    refine RunAt.done (by kernel_rfl) ?_
    refine kS_nrm ?_
    refine Runs.ret ?_
    obtain rfl := Option.some.inj h
    exact ⟨Out.ret_ne, (by kernel_rfl)⟩
theorem hansomlaw36_SizePlays_L (n_ : Int) (l_ : (List Int)) (r : Bool) (h : hansomlaw36_SizePlays n_ l_ = some r) : L 3 [.d (.int .i64 n_), .d (.sl (List.map (D.int .i64) l_))] = some (.d (.bool r), [.d (.int .i64 n_), .d (.sl (List.map (D.int .i64) l_))]) := by
  obtain ⟨p, ⟨hne, hf⟩, hr⟩ := hansomlaw36_SizePlays_ok n_ l_ r h
  obtain ⟨k, hk⟩ := run_of (F := F3) (args := [.d (.int .i64 n_), .d (.sl (List.map (D.int .i64) l_))]) (ap := [.d (.int .i64 n_), .d (.sl (List.map (D.int .i64) l_))]) (bx0 := updW (fun _ => none) []) rfl rfl (by kernel_rfl) ⟨p, ⟨hne, hf⟩, hr⟩
  exact lim_run (k := k) rfl hk
end Go.Es.Spl
