/- The interpreter answers as plain Lean does: part 1. No condition. -/
import Derived.Test.YtedmdailpfbboaaDatF
import Derived.Test.YtedmdailpfbboaaDatP
import Derived.KernelRfl
set_option linter.unusedVariables false
set_option linter.unusedSimpArgs false
set_option maxRecDepth 100000
set_option maxHeartbeats 4000000
namespace Go.Es.Dat
def data_May_Q (d_ : Data) (r : Bool) (p : Out × St) : Prop := (∀ i, p.1 ≠ .exit i) ∧ finF F43 [.d (Data.d d_)] p.2 = some (.d (.bool r), [.d (Data.d d_)])
theorem data_May_ok (d_ : Data) (r : Bool) (h : data_May d_ = some r) : Runs L F43.body ⟨tmOf [.d (Data.d d_)] 0, updW (fun _ => none) []⟩ (data_May_Q d_ r) := by
  unfold data_May at h
  refine Runs.seq ?_
  refine Runs.ops ?_
  refine RunAt.chunk 2 [⟨.ptr [1] 0 0, [([1], some (.cells [.d (.int .i64 d_.Seg), .d (.int .u16 d_.Off), .d (.sl (List.map (D.int .u8) d_.Bytes)), .d (.sl (List.map Fixup.d d_.Fixups))] 0))]⟩, ⟨.d (.bool false), []⟩] (by kernel_rfl) ?_
  refine RunAt.done (by kernel_rfl) ?_
  refine kS_nrm ?_
  refine Runs.seq ?_
  refine Runs.ops ?_
  refine RunAt.chunk 4 [⟨.ptr [1] 0 0, []⟩, ⟨.d (.int .i64 d_.Seg), []⟩, ⟨.d (.bool (decide (d_.Seg ≥ 1))), []⟩, ⟨.d (.bool (decide (d_.Seg ≥ 1))), []⟩] (by kernel_rfl) ?_
  cases hb_1 : ((decide (d_.Seg ≥ 1)) : Bool) with
  | true =>
    replace h := ite_t hb_1 h
    refine RunAt.chunk 5 [⟨.ptr [1] 0 0, []⟩, ⟨.d (.int .i64 d_.Seg), []⟩, ⟨.d (.bool (decide (d_.Seg ≤ 32767))), []⟩, ⟨.d (.bool (decide (d_.Seg ≤ 32767))), []⟩, ⟨.d (.bool (decide (d_.Seg ≤ 32767))), []⟩] (by kernel_rfl) ?_
    cases hb_2 : ((decide (d_.Seg ≤ 32767)) : Bool) with
    | true =>
      replace h := ite_t hb_2 h
      refine RunAt.chunk 2 [⟨.ptr [1] 0 2, []⟩, ⟨.d (.sl (List.map (D.int .u8) d_.Bytes)), []⟩] (by kernel_rfl) ?_
      refine RunAt.cut (some 14) .lenL [] none [.d (.sl (List.map (D.int .u8) d_.Bytes))] (.d (.int .i64 (d_.Bytes.length : Int))) [] (by kernel_rfl) (by kernel_rfl) (by kernel_rfl) (cut_len _) ?_
      refine RunAt.chunk 3 [⟨.d (.bool (decide ((d_.Bytes.length : Int) ≥ 1))), []⟩, ⟨.d (.bool (decide ((d_.Bytes.length : Int) ≥ 1))), []⟩, ⟨.d (.bool (decide ((d_.Bytes.length : Int) ≥ 1))), []⟩] (by kernel_rfl) ?_
      cases hb_3 : ((decide ((d_.Bytes.length : Int) ≥ 1)) : Bool) with
      | true =>
        replace h := ite_t hb_3 h
        refine RunAt.chunk 2 [⟨.ptr [1] 0 2, []⟩, ⟨.d (.sl (List.map (D.int .u8) d_.Bytes)), []⟩] (by kernel_rfl) ?_
        refine RunAt.cut (some 20) .lenL [] none [.d (.sl (List.map (D.int .u8) d_.Bytes))] (.d (.int .i64 (d_.Bytes.length : Int))) [] (by kernel_rfl) (by kernel_rfl) (by kernel_rfl) (cut_len _) ?_
        refine RunAt.chunk 3 [⟨.d (.bool (decide ((d_.Bytes.length : Int) ≤ 1024))), []⟩, ⟨.d (.bool (decide ((d_.Bytes.length : Int) ≤ 1024))), []⟩, ⟨.d (.bool (decide ((d_.Bytes.length : Int) ≤ 1024))), []⟩] (by kernel_rfl) ?_
        cases hb_4 : ((decide ((d_.Bytes.length : Int) ≤ 1024)) : Bool) with
        | true =>
          replace h := ite_t hb_4 h
          refine RunAt.chunk 5 [⟨.ptr [1] 0 1, []⟩, ⟨.d (.int .u16 d_.Off), []⟩, ⟨.d (.int .i64 (IntKind.wrap .i64 d_.Off)), []⟩, ⟨.ptr [1] 0 2, []⟩, ⟨.d (.sl (List.map (D.int .u8) d_.Bytes)), []⟩] (by kernel_rfl) ?_
          refine RunAt.cut (some 29) .lenL [] none [.d (.sl (List.map (D.int .u8) d_.Bytes))] (.d (.int .i64 (d_.Bytes.length : Int))) [] (by kernel_rfl) (by kernel_rfl) (by kernel_rfl) (cut_len _) ?_
          refine RunAt.chunk 4 [⟨.d (.int .i64 (IntKind.wrap .i64 (65536 - (d_.Bytes.length : Int)))), []⟩, ⟨.d (.bool (decide ((IntKind.wrap .i64 d_.Off) ≤ (IntKind.wrap .i64 (65536 - (d_.Bytes.length : Int)))))), []⟩, ⟨.d (.bool (decide ((IntKind.wrap .i64 d_.Off) ≤ (IntKind.wrap .i64 (65536 - (d_.Bytes.length : Int)))))), []⟩, ⟨.d (.bool (decide ((IntKind.wrap .i64 d_.Off) ≤ (IntKind.wrap .i64 (65536 - (d_.Bytes.length : Int)))))), []⟩] (by kernel_rfl) ?_
          refine RunAt.done (by kernel_rfl) ?_
          refine kS_nrm ?_
          refine Runs.ret ?_
          obtain rfl := Option.some.inj h
          exact ⟨Out.ret_ne, (by kernel_rfl)⟩
        | false =>
          replace h := ite_f hb_4 h
          refine RunAt.chunk 10 [⟨.tup [], []⟩, ⟨.tup [], []⟩, ⟨.tup [], []⟩, ⟨.tup [], []⟩, ⟨.tup [], []⟩, ⟨.tup [], []⟩, ⟨.tup [], []⟩, ⟨.tup [], []⟩, ⟨.d (.bool false), []⟩, ⟨.d (.bool false), []⟩] (by kernel_rfl) ?_
          refine RunAt.done (by kernel_rfl) ?_
          refine kS_nrm ?_
          refine Runs.ret ?_
          obtain rfl := Option.some.inj h
          exact ⟨Out.ret_ne, (by kernel_rfl)⟩
      | false =>
        replace h := ite_f hb_3 h
        refine RunAt.chunk 16 [⟨.tup [], []⟩, ⟨.tup [], []⟩, ⟨.tup [], []⟩, ⟨.tup [], []⟩, ⟨.d (.bool false), []⟩, ⟨.d (.bool false), []⟩, ⟨.tup [], []⟩, ⟨.tup [], []⟩, ⟨.tup [], []⟩, ⟨.tup [], []⟩, ⟨.tup [], []⟩, ⟨.tup [], []⟩, ⟨.tup [], []⟩, ⟨.tup [], []⟩, ⟨.d (.bool false), []⟩, ⟨.d (.bool false), []⟩] (by kernel_rfl) ?_
        refine RunAt.done (by kernel_rfl) ?_
        refine kS_nrm ?_
        refine Runs.ret ?_
        obtain rfl := Option.some.inj h
        exact ⟨Out.ret_ne, (by kernel_rfl)⟩
    | false =>
      replace h := ite_f hb_2 h
      refine RunAt.chunk 22 [⟨.tup [], []⟩, ⟨.tup [], []⟩, ⟨.tup [], []⟩, ⟨.tup [], []⟩, ⟨.d (.bool false), []⟩, ⟨.d (.bool false), []⟩, ⟨.tup [], []⟩, ⟨.tup [], []⟩, ⟨.tup [], []⟩, ⟨.tup [], []⟩, ⟨.d (.bool false), []⟩, ⟨.d (.bool false), []⟩, ⟨.tup [], []⟩, ⟨.tup [], []⟩, ⟨.tup [], []⟩, ⟨.tup [], []⟩, ⟨.tup [], []⟩, ⟨.tup [], []⟩, ⟨.tup [], []⟩, ⟨.tup [], []⟩, ⟨.d (.bool false), []⟩, ⟨.d (.bool false), []⟩] (by kernel_rfl) ?_
      refine RunAt.done (by kernel_rfl) ?_
      refine kS_nrm ?_
      refine Runs.ret ?_
      obtain rfl := Option.some.inj h
      exact ⟨Out.ret_ne, (by kernel_rfl)⟩
  | false =>
    replace h := ite_f hb_1 h
    refine RunAt.chunk 27 [⟨.tup [], []⟩, ⟨.tup [], []⟩, ⟨.tup [], []⟩, ⟨.d (.bool false), []⟩, ⟨.d (.bool false), []⟩, ⟨.tup [], []⟩, ⟨.tup [], []⟩, ⟨.tup [], []⟩, ⟨.tup [], []⟩, ⟨.d (.bool false), []⟩, ⟨.d (.bool false), []⟩, ⟨.tup [], []⟩, ⟨.tup [], []⟩, ⟨.tup [], []⟩, ⟨.tup [], []⟩, ⟨.d (.bool false), []⟩, ⟨.d (.bool false), []⟩, ⟨.tup [], []⟩, ⟨.tup [], []⟩, ⟨.tup [], []⟩, ⟨.tup [], []⟩, ⟨.tup [], []⟩, ⟨.tup [], []⟩, ⟨.tup [], []⟩, ⟨.tup [], []⟩, ⟨.d (.bool false), []⟩, ⟨.d (.bool false), []⟩] (by kernel_rfl) ?_
    refine RunAt.done (by kernel_rfl) ?_
    refine kS_nrm ?_
    refine Runs.ret ?_
    obtain rfl := Option.some.inj h
    exact ⟨Out.ret_ne, (by kernel_rfl)⟩
theorem data_May_L (d_ : Data) (r : Bool) (h : data_May d_ = some r) : L 43 [.d (Data.d d_)] = some (.d (.bool r), [.d (Data.d d_)]) := by
  obtain ⟨p, ⟨hne, hf⟩, hr⟩ := data_May_ok d_ r h
  obtain ⟨k, hk⟩ := run_of (F := F43) (args := [.d (Data.d d_)]) (ap := [.d (Data.d d_)]) (bx0 := updW (fun _ => none) []) rfl rfl (by kernel_rfl) ⟨p, ⟨hne, hf⟩, hr⟩
  exact lim_run (k := k) rfl hk
def index_Put_Q (n_ : Int) (r : (List Int)) (p : Out × St) : Prop := (∀ i, p.1 ≠ .exit i) ∧ finF F16 [.d (.int .i64 n_)] p.2 = some (.arr false 1 (List.map (D.int .u8) r), [.d (.int .i64 n_)])
theorem index_Put_ok (n_ : Int) (r : (List Int)) (h : index_Put n_ = some r) : Runs L F16.body ⟨tmOf [.d (.int .i64 n_)] 0, updW (fun _ => none) []⟩ (index_Put_Q n_ r) := by
  unfold index_Put at h
  refine Runs.seq ?_
  refine Runs.ops ?_
  refine RunAt.chunk 1 [⟨.nils, []⟩] (by kernel_rfl) ?_
  refine RunAt.done (by kernel_rfl) ?_
  refine kS_nrm ?_
  refine Runs.seq ?_
  refine Runs.block ?_
  refine Runs.seq ?_
  refine Runs.ops ?_
  refine RunAt.chunk 3 [⟨.d (.int .i64 n_), []⟩, ⟨.d (.bool (decide (n_ < 0))), []⟩, ⟨.d (.bool (decide (n_ < 0))), []⟩] (by kernel_rfl) ?_
  cases hb_1 : ((decide (n_ < 0)) : Bool) with
  | true =>
    replace h := ite_t hb_1 h
    refine RunAt.chunk 4 [⟨.tup [], []⟩, ⟨.tup [], []⟩, ⟨.d (.bool true), []⟩, ⟨.d (.bool true), []⟩] (by kernel_rfl) ?_
    refine RunAt.done (by kernel_rfl) ?_
    refine kS_nrm ?_
    refine Runs.cond_t (by kernel_rfl) ?_
    refine Runs.seq ?_
    refine Runs.ops ?_
    refine RunAt.chunk 2 [⟨.ref [10] 0 0 (List.map (D.int .u8) ([0] : List Int)).length 1, [([10], some (.arr (List.map (D.int .u8) ([0] : List Int)) 0 false))]⟩, ⟨.ref [10] 0 0 (List.map (D.int .u8) ([0] : List Int)).length 1, []⟩] (by kernel_rfl) ?_
    refine RunAt.done (by kernel_rfl) ?_
    refine kS_nrm ?_
    refine Runs.ret ?_
    refine kB_ret ?_
    refine kS_ret ?_
    obtain rfl := Option.some.inj h
    exact ⟨Out.ret_ne, (fin_of (rs := [.ref [10] 0 0 (List.map (D.int .u8) ([0] : List Int)).length 1]) (by kernel_rfl) (by kernel_rfl) (outs_own (id := [10]) (v := 0) (fz := false) (es := List.map (D.int .u8) ([0] : List Int)) (by kernel_rfl) (by decide) rfl outs_nil) (gives_cons (give_same (by kernel_rfl)) gives_nil))⟩
  | false =>
    replace h := ite_f hb_1 h
    refine RunAt.chunk 4 [⟨.d (.int .i64 n_), []⟩, ⟨.d (.bool (decide (n_ > 32767))), []⟩, ⟨.d (.bool (decide (n_ > 32767))), []⟩, ⟨.d (.bool (decide (n_ > 32767))), []⟩] (by kernel_rfl) ?_
    refine RunAt.done (by kernel_rfl) ?_
    refine kS_nrm ?_
    cases hb_2 : ((decide (n_ > 32767)) : Bool) with
    | true =>
      replace h := ite_t hb_2 h
      refine Runs.cond_t (by kernel_rfl) ?_
      refine Runs.seq ?_
      refine Runs.ops ?_
      refine RunAt.chunk 2 [⟨.ref [10] 0 0 (List.map (D.int .u8) ([0] : List Int)).length 1, [([10], some (.arr (List.map (D.int .u8) ([0] : List Int)) 0 false))]⟩, ⟨.ref [10] 0 0 (List.map (D.int .u8) ([0] : List Int)).length 1, []⟩] (by kernel_rfl) ?_
      refine RunAt.done (by kernel_rfl) ?_
      refine kS_nrm ?_
      refine Runs.ret ?_
      refine kB_ret ?_
      refine kS_ret ?_
      obtain rfl := Option.some.inj h
      exact ⟨Out.ret_ne, (fin_of (rs := [.ref [10] 0 0 (List.map (D.int .u8) ([0] : List Int)).length 1]) (by kernel_rfl) (by kernel_rfl) (outs_own (id := [10]) (v := 0) (fz := false) (es := List.map (D.int .u8) ([0] : List Int)) (by kernel_rfl) (by decide) rfl outs_nil) (gives_cons (give_same (by kernel_rfl)) gives_nil))⟩
    | false =>
      replace h := ite_f hb_2 h
      refine Runs.cond_f (by kernel_rfl) ?_
      refine Runs.seq ?_
      refine Runs.ops ?_
      refine RunAt.chunk 3 [⟨.d (.int .i64 n_), []⟩, ⟨.d (.bool (decide (n_ < 128))), []⟩, ⟨.d (.bool (decide (n_ < 128))), []⟩] (by kernel_rfl) ?_
      refine RunAt.done (by kernel_rfl) ?_
      refine kS_nrm ?_
      cases hb_3 : ((decide (n_ < 128)) : Bool) with
      | true =>
        replace h := ite_t hb_3 h
        refine Runs.cond_t (by kernel_rfl) ?_
        refine Runs.seq ?_
        refine Runs.ops ?_
        refine RunAt.chunk 4 [⟨.d (.int .i64 n_), []⟩, ⟨.d (.int .u8 (IntKind.wrap .u8 n_)), []⟩, ⟨.ref [16] 0 0 (List.map (D.int .u8) ([(IntKind.wrap .u8 n_)] : List Int)).length 1, [([16], some (.arr (List.map (D.int .u8) ([(IntKind.wrap .u8 n_)] : List Int)) 0 false))]⟩, ⟨.ref [16] 0 0 (List.map (D.int .u8) ([(IntKind.wrap .u8 n_)] : List Int)).length 1, []⟩] (by kernel_rfl) ?_
        refine RunAt.done (by kernel_rfl) ?_
        refine kS_nrm ?_
        refine Runs.ret ?_
        refine kB_ret ?_
        refine kS_ret ?_
        obtain rfl := Option.some.inj h
        exact ⟨Out.ret_ne, (fin_of (rs := [.ref [16] 0 0 (List.map (D.int .u8) ([(IntKind.wrap .u8 n_)] : List Int)).length 1]) (by kernel_rfl) (by kernel_rfl) (outs_own (id := [16]) (v := 0) (fz := false) (es := List.map (D.int .u8) ([(IntKind.wrap .u8 n_)] : List Int)) (by kernel_rfl) (by decide) rfl outs_nil) (gives_cons (give_same (by kernel_rfl)) gives_nil))⟩
      | false =>
        replace h := ite_f hb_3 h
        refine Runs.cond_f (by kernel_rfl) ?_
        refine Runs.skip ?_
        refine kB_nrm ?_
        refine kS_nrm ?_
        refine Runs.seq ?_
        refine Runs.ops ?_
        refine RunAt.chunk 8 [⟨.d (.int .i64 n_), []⟩, ⟨.d (.int .i64 (shrI .i64 n_ 8)), []⟩, ⟨.d (.int .u8 (IntKind.wrap .u8 (shrI .i64 n_ 8))), []⟩, ⟨.d (.int .u8 (bitsOp .or .u8 (IntKind.wrap .u8 (shrI .i64 n_ 8)) 128)), []⟩, ⟨.d (.int .i64 n_), []⟩, ⟨.d (.int .u8 (IntKind.wrap .u8 n_)), []⟩, ⟨.ref [23] 0 0 (List.map (D.int .u8) ([(bitsOp .or .u8 (IntKind.wrap .u8 (shrI .i64 n_ 8)) 128), (IntKind.wrap .u8 n_)] : List Int)).length 1, [([23], some (.arr (List.map (D.int .u8) ([(bitsOp .or .u8 (IntKind.wrap .u8 (shrI .i64 n_ 8)) 128), (IntKind.wrap .u8 n_)] : List Int)) 0 false))]⟩, ⟨.ref [23] 0 0 (List.map (D.int .u8) ([(bitsOp .or .u8 (IntKind.wrap .u8 (shrI .i64 n_ 8)) 128), (IntKind.wrap .u8 n_)] : List Int)).length 1, []⟩] (by kernel_rfl) ?_
        refine RunAt.done (by kernel_rfl) ?_
        refine kS_nrm ?_
        refine Runs.ret ?_
        obtain rfl := Option.some.inj h
        exact ⟨Out.ret_ne, (fin_of (rs := [.ref [23] 0 0 (List.map (D.int .u8) ([(bitsOp .or .u8 (IntKind.wrap .u8 (shrI .i64 n_ 8)) 128), (IntKind.wrap .u8 n_)] : List Int)).length 1]) (by kernel_rfl) (by kernel_rfl) (outs_own (id := [23]) (v := 0) (fz := false) (es := List.map (D.int .u8) ([(bitsOp .or .u8 (IntKind.wrap .u8 (shrI .i64 n_ 8)) 128), (IntKind.wrap .u8 n_)] : List Int)) (by kernel_rfl) (by decide) rfl outs_nil) (gives_cons (give_same (by kernel_rfl)) gives_nil))⟩
theorem index_Put_L (n_ : Int) (r : (List Int)) (h : index_Put n_ = some r) : L 16 [.d (.int .i64 n_)] = some (.arr false 1 (List.map (D.int .u8) r), [.d (.int .i64 n_)]) := by
  obtain ⟨p, ⟨hne, hf⟩, hr⟩ := index_Put_ok n_ r h
  obtain ⟨k, hk⟩ := run_of (F := F16) (args := [.d (.int .i64 n_)]) (ap := [.d (.int .i64 n_)]) (bx0 := updW (fun _ => none) []) rfl rfl (by kernel_rfl) ⟨p, ⟨hne, hf⟩, hr⟩
  exact lim_run (k := k) rfl hk
def bits_Low_Q (w_ : Int) (r : Int) (p : Out × St) : Prop := (∀ i, p.1 ≠ .exit i) ∧ finF F67 [.d (.int .u16 w_)] p.2 = some (.d (.int .u8 r), [.d (.int .u16 w_)])
theorem bits_Low_ok (w_ : Int) (r : Int) (h : bits_Low w_ = some r) : Runs L F67.body ⟨tmOf [.d (.int .u16 w_)] 0, updW (fun _ => none) []⟩ (bits_Low_Q w_ r) := by
  unfold bits_Low at h
  refine Runs.seq ?_
  refine Runs.ops ?_
  refine RunAt.chunk 1 [⟨.d (.int .u8 0), []⟩] (by kernel_rfl) ?_
  refine RunAt.done (by kernel_rfl) ?_
  refine kS_nrm ?_
  refine Runs.seq ?_
  refine Runs.ops ?_
  refine RunAt.chunk 3 [⟨.d (.int .u16 w_), []⟩, ⟨.d (.int .u8 (IntKind.wrap .u8 w_)), []⟩, ⟨.d (.int .u8 (IntKind.wrap .u8 w_)), []⟩] (by kernel_rfl) ?_
  refine RunAt.done (by kernel_rfl) ?_
  refine kS_nrm ?_
  refine Runs.ret ?_
  obtain rfl := Option.some.inj h
  exact ⟨Out.ret_ne, (by kernel_rfl)⟩
theorem bits_Low_L (w_ : Int) (r : Int) (h : bits_Low w_ = some r) : L 67 [.d (.int .u16 w_)] = some (.d (.int .u8 r), [.d (.int .u16 w_)]) := by
  obtain ⟨p, ⟨hne, hf⟩, hr⟩ := bits_Low_ok w_ r h
  obtain ⟨k, hk⟩ := run_of (F := F67) (args := [.d (.int .u16 w_)]) (ap := [.d (.int .u16 w_)]) (bx0 := updW (fun _ => none) []) rfl rfl (by kernel_rfl) ⟨p, ⟨hne, hf⟩, hr⟩
  exact lim_run (k := k) rfl hk
def bits_High_Q (w_ : Int) (r : Int) (p : Out × St) : Prop := (∀ i, p.1 ≠ .exit i) ∧ finF F68 [.d (.int .u16 w_)] p.2 = some (.d (.int .u8 r), [.d (.int .u16 w_)])
theorem bits_High_ok (w_ : Int) (r : Int) (h : bits_High w_ = some r) : Runs L F68.body ⟨tmOf [.d (.int .u16 w_)] 0, updW (fun _ => none) []⟩ (bits_High_Q w_ r) := by
  unfold bits_High at h
  refine Runs.seq ?_
  refine Runs.ops ?_
  refine RunAt.chunk 1 [⟨.d (.int .u8 0), []⟩] (by kernel_rfl) ?_
  refine RunAt.done (by kernel_rfl) ?_
  refine kS_nrm ?_
  refine Runs.seq ?_
  refine Runs.ops ?_
  refine RunAt.chunk 4 [⟨.d (.int .u16 w_), []⟩, ⟨.d (.int .u16 (shrI .u16 w_ 8)), []⟩, ⟨.d (.int .u8 (IntKind.wrap .u8 (shrI .u16 w_ 8))), []⟩, ⟨.d (.int .u8 (IntKind.wrap .u8 (shrI .u16 w_ 8))), []⟩] (by kernel_rfl) ?_
  refine RunAt.done (by kernel_rfl) ?_
  refine kS_nrm ?_
  refine Runs.ret ?_
  obtain rfl := Option.some.inj h
  exact ⟨Out.ret_ne, (by kernel_rfl)⟩
theorem bits_High_L (w_ : Int) (r : Int) (h : bits_High w_ = some r) : L 68 [.d (.int .u16 w_)] = some (.d (.int .u8 r), [.d (.int .u16 w_)]) := by
  obtain ⟨p, ⟨hne, hf⟩, hr⟩ := bits_High_ok w_ r h
  obtain ⟨k, hk⟩ := run_of (F := F68) (args := [.d (.int .u16 w_)]) (ap := [.d (.int .u16 w_)]) (bx0 := updW (fun _ => none) []) rfl rfl (by kernel_rfl) ⟨p, ⟨hne, hf⟩, hr⟩
  exact lim_run (k := k) rfl hk
def index_Two_Q (w_ : Int) (r : (List Int)) (p : Out × St) : Prop := (∀ i, p.1 ≠ .exit i) ∧ finF F20 [.d (.int .u16 w_)] p.2 = some (.d (.sl (List.map (D.int .u8) r)), [.d (.int .u16 w_)])
theorem index_Two_ok (w_ : Int) (r : (List Int)) (h : index_Two w_ = some r) : Runs L F20.body ⟨tmOf [.d (.int .u16 w_)] 0, updW (fun _ => none) []⟩ (index_Two_Q w_ r) := by
  unfold index_Two at h
  refine Runs.seq ?_
  refine Runs.ops ?_
  refine RunAt.chunk 1 [⟨.nils, []⟩] (by kernel_rfl) ?_
  refine RunAt.done (by kernel_rfl) ?_
  refine kS_nrm ?_
  refine Runs.seq ?_
  refine Runs.ops ?_
  refine RunAt.chunk 1 [⟨.d (.int .u16 w_), []⟩] (by kernel_rfl) ?_
  obtain ⟨r_1, hr_1, h⟩ := bind_s h
  have hc_1 := bits_Low_L w_ r_1 hr_1
  refine RunAt.cut (some 4) (.callf 67) [] none [.d (.int .u16 w_)] (.d (.int .u8 r_1)) [] (by kernel_rfl) (by kernel_rfl) (by kernel_rfl) (cut_call (call_of (ws := []) (us := []) (by kernel_rfl) (by kernel_rfl) hc_1 (by kernel_rfl) (by kernel_rfl))) ?_
  refine RunAt.chunk 1 [⟨.d (.int .u16 w_), []⟩] (by kernel_rfl) ?_
  obtain ⟨r_2, hr_2, h⟩ := bind_s h
  have hc_2 := bits_High_L w_ r_2 hr_2
  refine RunAt.cut (some 6) (.callf 68) [] none [.d (.int .u16 w_)] (.d (.int .u8 r_2)) [] (by kernel_rfl) (by kernel_rfl) (by kernel_rfl) (cut_call (call_of (ws := []) (us := []) (by kernel_rfl) (by kernel_rfl) hc_2 (by kernel_rfl) (by kernel_rfl))) ?_
  refine RunAt.chunk 2 [⟨.ref [7] 0 0 (List.map (D.int .u8) ([r_1, r_2] : List Int)).length 1, [([7], some (.arr (List.map (D.int .u8) ([r_1, r_2] : List Int)) 0 false))]⟩, ⟨.ref [7] 0 0 (List.map (D.int .u8) ([r_1, r_2] : List Int)).length 1, []⟩] (by kernel_rfl) ?_
  refine RunAt.done (by kernel_rfl) ?_
  refine kS_nrm ?_
  refine Runs.seq ?_
  refine Runs.gcons (frz_ref (e := (D.int .u8)) (l := ([r_1, r_2] : List Int)) (id := [7]) (v := 0) (n := 1) (fz := false) (by kernel_rfl) (by kernel_rfl) rfl) ?_
  refine Runs.gnil ?_
  refine kS_nrm ?_
  refine Runs.ret ?_
  obtain rfl := Option.some.inj h
  exact ⟨Out.ret_ne, (by kernel_rfl)⟩
theorem index_Two_L (w_ : Int) (r : (List Int)) (h : index_Two w_ = some r) : L 20 [.d (.int .u16 w_)] = some (.d (.sl (List.map (D.int .u8) r)), [.d (.int .u16 w_)]) := by
  obtain ⟨p, ⟨hne, hf⟩, hr⟩ := index_Two_ok w_ r h
  obtain ⟨k, hk⟩ := run_of (F := F20) (args := [.d (.int .u16 w_)]) (ap := [.d (.int .u16 w_)]) (bx0 := updW (fun _ => none) []) rfl rfl (by kernel_rfl) ⟨p, ⟨hne, hf⟩, hr⟩
  exact lim_run (k := k) rfl hk
def data_Put_Q (d_ : Data) (r : (Record × Bool)) (p : Out × St) : Prop := (∀ i, p.1 ≠ .exit i) ∧ finF F41 [.d (Data.d d_)] p.2 = some (.tup [.d (Record.d r.1), .d (.bool r.2)], [.d (Data.d d_)])
theorem data_Put_ok (d_ : Data) (r : (Record × Bool)) (h : data_Put d_ = some r) : Runs L F41.body ⟨tmOf [.d (Data.d d_)] 0, updW (fun _ => none) []⟩ (data_Put_Q d_ r) := by
  unfold data_Put at h
  refine Runs.seq ?_
  refine Runs.ops ?_
  refine RunAt.chunk 3 [⟨.ptr [1] 0 0, [([1], some (.cells [.d (.int .i64 d_.Seg), .d (.int .u16 d_.Off), .d (.sl (List.map (D.int .u8) d_.Bytes)), .d (.sl (List.map Fixup.d d_.Fixups))] 0))]⟩, ⟨.ptr [2] 0 0, [([2], some (.cells [.d (.int .u8 0), .nils] 0))]⟩, ⟨.d (.bool false), []⟩] (by kernel_rfl) ?_
  refine RunAt.done (by kernel_rfl) ?_
  refine kS_nrm ?_
  refine Runs.seq ?_
  refine Runs.seq ?_
  refine Runs.ops ?_
  refine RunAt.chunk 1 [⟨.d (Data.d d_), []⟩] (by kernel_rfl) ?_
  obtain ⟨r_1, hr_1, h⟩ := bind_s h
  have hc_1 := data_May_L d_ r_1 hr_1
  refine RunAt.cut (some 6) (.callf 43) [] none [.d (Data.d d_)] (.d (.bool r_1)) [] (by kernel_rfl) (by kernel_rfl) (by kernel_rfl) (cut_call (call_of (ws := []) (us := []) (by kernel_rfl) (by kernel_rfl) hc_1 (by kernel_rfl) (by kernel_rfl))) ?_
  refine RunAt.chunk 1 [⟨.d (.bool (!r_1)), []⟩] (by kernel_rfl) ?_
  refine RunAt.done (by kernel_rfl) ?_
  refine kS_nrm ?_
  cases hb_1 : ((!r_1) : Bool) with
  | true =>
    replace h := ite_t hb_1 h
    refine Runs.cond_t (by kernel_rfl) ?_
    refine Runs.seq ?_
    refine Runs.ops ?_
    refine RunAt.chunk 3 [⟨.mix [.d (.int .u8 0), .nils], []⟩, ⟨.tup [], [([2], some (.cells [.d (.int .u8 0), .nils] 0))]⟩, ⟨.d (.bool false), []⟩] (by kernel_rfl) ?_
    refine RunAt.done (by kernel_rfl) ?_
    refine kS_nrm ?_
    refine Runs.seq ?_
    refine Runs.gcons (frzB_nil (ver := 0) (cs := [.d (.int .u8 0), .nils]) (cs' := [.d (.int .u8 0), .d (.sl (List.map (D.int .u8) ([] : List Int)))]) (D.int .u8) (by kernel_rfl) (by kernel_rfl) (by kernel_rfl)) ?_
    refine Runs.gnil ?_
    refine kS_nrm ?_
    refine Runs.ret ?_
    refine kS_ret ?_
    obtain rfl := Option.some.inj h
    exact ⟨Out.ret_ne, (by kernel_rfl)⟩
  | false =>
    replace h := ite_f hb_1 h
    refine Runs.cond_f (by kernel_rfl) ?_
    refine Runs.skip ?_
    refine kS_nrm ?_
    refine Runs.seq ?_
    refine Runs.ops ?_
    refine RunAt.chunk 2 [⟨.ptr [1] 0 0, []⟩, ⟨.d (.int .i64 d_.Seg), []⟩] (by kernel_rfl) ?_
    obtain ⟨r_2, hr_2, h⟩ := bind_s h
    have hc_2 := index_Put_L d_.Seg r_2 hr_2
    refine RunAt.cut (some 11) (.callf 16) [] (some []) [.d (.int .i64 d_.Seg)] (.ref [11] 0 0 (List.map (D.int .u8) r_2).length 1) [([11], some (.arr (List.map (D.int .u8) r_2) 0 false))] (by kernel_rfl) (by kernel_rfl) (by kernel_rfl) (cut_call (call_of (ws := []) (us := []) (by kernel_rfl) (gives_cons (ws := []) (give_same (by kernel_rfl)) gives_nil) hc_2 (by kernel_rfl) (by kernel_rfl))) ?_
    refine RunAt.chunk 2 [⟨.ptr [1] 0 1, []⟩, ⟨.d (.int .u16 d_.Off), []⟩] (by kernel_rfl) ?_
    obtain ⟨r_3, hr_3, h⟩ := bind_s h
    have hc_3 := index_Two_L d_.Off r_3 hr_3
    refine RunAt.cut (some 14) (.callf 20) [] none [.d (.int .u16 d_.Off)] (.d (.sl (List.map (D.int .u8) r_3))) [] (by kernel_rfl) (by kernel_rfl) (by kernel_rfl) (cut_call (call_of (ws := []) (us := []) (by kernel_rfl) (by kernel_rfl) hc_3 (by kernel_rfl) (by kernel_rfl))) ?_
    obtain ⟨z_1, hz_1, h⟩ := bind_s h
    refine RunAt.cut (some 15) (.append 1 1 false) [] none [.ref [11] 0 0 (List.map (D.int .u8) r_2).length 1, .d (.sl (List.map (D.int .u8) r_3))] (.ref [11] 1 0 (List.map (D.int .u8) z_1).length 1) [([11], some (.arr (List.map (D.int .u8) z_1) 1 false))] (by kernel_rfl) (by kernel_rfl) (by kernel_rfl) (cut_appR (e := (D.int .u8)) (l := r_2) (fz := false) (ws := []) (ap_data _) (fun _ => rfl) hz_1 (by kernel_rfl) (by kernel_rfl) rfl) ?_
    refine RunAt.chunk 1 [⟨.ref [11] 1 0 (List.map (D.int .u8) z_1).length 1, []⟩] (by kernel_rfl) ?_
    refine RunAt.done (by kernel_rfl) ?_
    refine kS_nrm ?_
    refine Runs.seq ?_
    refine Runs.ops ?_
    refine RunAt.chunk 3 [⟨.ref [11] 1 0 (List.map (D.int .u8) z_1).length 1, []⟩, ⟨.ptr [1] 0 2, []⟩, ⟨.d (.sl (List.map (D.int .u8) d_.Bytes)), []⟩] (by kernel_rfl) ?_
    obtain ⟨z_2, hz_2, h⟩ := bind_s h
    refine RunAt.cut (some 19) (.append 1 1 false) [] none [.ref [11] 1 0 (List.map (D.int .u8) z_1).length 1, .d (.sl (List.map (D.int .u8) d_.Bytes))] (.ref [11] 2 0 (List.map (D.int .u8) z_2).length 1) [([11], some (.arr (List.map (D.int .u8) z_2) 2 false))] (by kernel_rfl) (by kernel_rfl) (by kernel_rfl) (cut_appR (e := (D.int .u8)) (l := z_1) (fz := false) (ws := []) (ap_data _) (fun _ => rfl) hz_2 (by kernel_rfl) (by kernel_rfl) rfl) ?_
    refine RunAt.chunk 3 [⟨.mix [.d (.int .u8 160), .ref [11] 2 0 (List.map (D.int .u8) z_2).length 1], []⟩, ⟨.tup [], [([2], some (.cells [.d (.int .u8 160), .ref [11] 2 0 (List.map (D.int .u8) z_2).length 1] 0))]⟩, ⟨.d (.bool true), []⟩] (by kernel_rfl) ?_
    refine RunAt.done (by kernel_rfl) ?_
    refine kS_nrm ?_
    refine Runs.seq ?_
    refine Runs.gcons (frzB_ref (e := (D.int .u8)) (l := z_2) (id := [2]) (id' := [11]) (v := 2) (n := 1) (fz := false) (ver := 0) (cs := [.d (.int .u8 160), .ref [11] 2 0 (List.map (D.int .u8) z_2).length 1]) (cs' := [.d (.int .u8 160), .d (.sl (List.map (D.int .u8) z_2))]) (by kernel_rfl) (by kernel_rfl) (by kernel_rfl) (by decide) (by kernel_rfl) rfl) ?_
    refine Runs.gnil ?_
    refine kS_nrm ?_
    refine Runs.ret ?_
    obtain rfl := Option.some.inj h
    exact ⟨Out.ret_ne, (by kernel_rfl)⟩
theorem data_Put_L (d_ : Data) (r : (Record × Bool)) (h : data_Put d_ = some r) : L 41 [.d (Data.d d_)] = some (.tup [.d (Record.d r.1), .d (.bool r.2)], [.d (Data.d d_)]) := by
  obtain ⟨p, ⟨hne, hf⟩, hr⟩ := data_Put_ok d_ r h
  obtain ⟨k, hk⟩ := run_of (F := F41) (args := [.d (Data.d d_)]) (ap := [.d (Data.d d_)]) (bx0 := updW (fun _ => none) []) rfl rfl (by kernel_rfl) ⟨p, ⟨hne, hf⟩, hr⟩
  exact lim_run (k := k) rfl hk
def index_From_Q (b_ : (List Int)) (r : Source) (p : Out × St) : Prop := (∀ i, p.1 ≠ .exit i) ∧ finF F25 [.d (.sl (List.map (D.int .u8) b_))] p.2 = some (.ptr [.d (.sl (List.map (D.int .u8) r.b)), .d (.int .i64 r.e)], [.d (.sl (List.map (D.int .u8) b_))])
theorem index_From_ok (b_ : (List Int)) (r : Source) (h : index_From b_ = some r) : Runs L F25.body ⟨tmOf [.d (.sl (List.map (D.int .u8) b_))] 0, updW (fun _ => none) []⟩ (index_From_Q b_ r) := by
  unfold index_From at h
  refine Runs.seq ?_
  refine Runs.ops ?_
  refine RunAt.chunk 1 [⟨.nilp, []⟩] (by kernel_rfl) ?_
  refine RunAt.done (by kernel_rfl) ?_
  refine kS_nrm ?_
  refine Runs.seq ?_
  refine Runs.ops ?_
  refine RunAt.chunk 1 [⟨.d (.sl (List.map (D.int .u8) b_)), []⟩] (by kernel_rfl) ?_
  obtain ⟨z_1, hz_1, h⟩ := bind_s h
  refine RunAt.cut (some 4) (.append 1 1 false) [] none [.nils, .d (.sl (List.map (D.int .u8) b_))] (.ref [4] 0 0 (List.map (D.int .u8) z_1).length 1) [([4], some (.arr (List.map (D.int .u8) z_1) 0 false))] (by kernel_rfl) (by kernel_rfl) (by kernel_rfl) (cut_appN (e := (D.int .u8)) (ws := []) (ap_data _) (fun _ => rfl) hz_1 (by kernel_rfl)) ?_
  refine RunAt.chunk 3 [⟨.mix [.ref [4] 0 0 (List.map (D.int .u8) z_1).length 1, .d (.int .i64 0)], []⟩, ⟨.ptr [6] 0 0, [([6], some (.cells [.ref [4] 0 0 (List.map (D.int .u8) z_1).length 1, .d (.int .i64 0)] 0))]⟩, ⟨.ptr [6] 0 0, []⟩] (by kernel_rfl) ?_
  refine RunAt.done (by kernel_rfl) ?_
  refine kS_nrm ?_
  refine Runs.seq ?_
  refine Runs.gcons (frzB_ref (e := (D.int .u8)) (l := z_1) (id := [6]) (id' := [4]) (v := 0) (n := 1) (fz := false) (ver := 0) (cs := [.ref [4] 0 0 (List.map (D.int .u8) z_1).length 1, .d (.int .i64 0)]) (cs' := [.d (.sl (List.map (D.int .u8) z_1)), .d (.int .i64 0)]) (by kernel_rfl) (by kernel_rfl) (by kernel_rfl) (by decide) (by kernel_rfl) rfl) ?_
  refine Runs.gnil ?_
  refine kS_nrm ?_
  refine Runs.ret ?_
  obtain rfl := Option.some.inj h
  exact ⟨Out.ret_ne, (by kernel_rfl)⟩
theorem index_From_L (b_ : (List Int)) (r : Source) (h : index_From b_ = some r) : L 25 [.d (.sl (List.map (D.int .u8) b_))] = some (.ptr [.d (.sl (List.map (D.int .u8) r.b)), .d (.int .i64 r.e)], [.d (.sl (List.map (D.int .u8) b_))]) := by
  obtain ⟨p, ⟨hne, hf⟩, hr⟩ := index_From_ok b_ r h
  obtain ⟨k, hk⟩ := run_of (F := F25) (args := [.d (.sl (List.map (D.int .u8) b_))]) (ap := [.d (.sl (List.map (D.int .u8) b_))]) (bx0 := updW (fun _ => none) []) rfl rfl (by kernel_rfl) ⟨p, ⟨hne, hf⟩, hr⟩
  exact lim_run (k := k) rfl hk
def index_Source_Wrong_Q (s_ : Source) (e_ : Int) (r : Source) (p : Out × St) : Prop := (∀ i, p.1 ≠ .exit i) ∧ finF F27 [.ptr [0] 0 0, .d (.int .i64 e_)] p.2 = some (.tup [], [.ptr [.d (.sl (List.map (D.int .u8) r.b)), .d (.int .i64 r.e)], .d (.int .i64 e_)])
theorem index_Source_Wrong_ok (s_ : Source) (e_ : Int) (r : Source) (h : index_Source_Wrong s_ e_ = some r) : Runs L F27.body ⟨tmOf [.ptr [0] 0 0, .d (.int .i64 e_)] 0, updW (fun _ => none) [([0], some (.cells [.d (.sl (List.map (D.int .u8) s_.b)), .d (.int .i64 s_.e)] 0))]⟩ (index_Source_Wrong_Q s_ e_ r) := by
  unfold index_Source_Wrong at h
  refine Runs.seq ?_
  refine Runs.seq ?_
  refine Runs.ops ?_
  refine RunAt.chunk 10 [⟨.ptr [0] 0 0, []⟩, ⟨.d (.bool true), []⟩, ⟨.d (.bool true), []⟩, ⟨.ptr [0] 0 0, []⟩, ⟨.ptr [0] 0 0, []⟩, ⟨.ptr [0] 0 1, []⟩, ⟨.d (.int .i64 s_.e), []⟩, ⟨.d (.bool (s_.e == 0)), []⟩, ⟨.d (.bool (s_.e == 0)), []⟩, ⟨.d (.bool (s_.e == 0)), []⟩] (by kernel_rfl) ?_
  cases hb_1 : ((s_.e == 0) : Bool) with
  | true =>
    replace h := ite_t hb_1 h
    refine RunAt.chunk 3 [⟨.d (.int .i64 e_), []⟩, ⟨.d (.bool (e_ != 0)), []⟩, ⟨.d (.bool (e_ != 0)), []⟩] (by kernel_rfl) ?_
    refine RunAt.done (by kernel_rfl) ?_
    refine kS_nrm ?_
    cases hb_2 : ((e_ != 0) : Bool) with
    | true =>
      replace h := ite_t hb_2 h
      refine Runs.cond_t (by kernel_rfl) ?_
      refine Runs.ops ?_
      refine RunAt.chunk 9 [⟨.ptr [0] 0 0, []⟩, ⟨.ptr [0] 0 0, []⟩, ⟨.d (.int .i64 e_), []⟩, ⟨.ptr [0] 0 0, []⟩, ⟨.ptr [0] 0 1, []⟩, ⟨.tup [], [([0], some (.cells [.d (.sl (List.map (D.int .u8) s_.b)), .d (.int .i64 e_)] 0))]⟩, ⟨.ptr [0] 0 0, []⟩, ⟨.ptr [0] 0 0, []⟩, ⟨.tup [], [([0], some (.cells [.nils, .d (.int .i64 e_)] 0))]⟩] (by kernel_rfl) ?_
      refine RunAt.done (by kernel_rfl) ?_
      refine kS_nrm ?_
      refine Runs.gcons (frzB_nil (ver := 0) (cs := [.nils, .d (.int .i64 e_)]) (cs' := [.d (.sl (List.map (D.int .u8) ([] : List Int))), .d (.int .i64 e_)]) (D.int .u8) (by kernel_rfl) (by kernel_rfl) (by kernel_rfl)) ?_
      refine Runs.gnil ?_
      obtain rfl := Option.some.inj h
      exact ⟨Out.nrm_ne, (by kernel_rfl)⟩
    | false =>
      replace h := ite_f hb_2 h
      refine Runs.cond_f (by kernel_rfl) ?_
      refine Runs.skip ?_
      refine kS_nrm ?_
      refine Runs.gsame (by kernel_rfl) ?_
      refine Runs.gnil ?_
      obtain rfl := Option.some.inj h
      exact ⟨Out.nrm_ne, (by kernel_rfl)⟩
  | false =>
    replace h := ite_f hb_1 h
    refine RunAt.chunk 3 [⟨.tup [], []⟩, ⟨.tup [], []⟩, ⟨.d (.bool false), []⟩] (by kernel_rfl) ?_
    refine RunAt.done (by kernel_rfl) ?_
    refine kS_nrm ?_
    refine Runs.cond_f (by kernel_rfl) ?_
    refine Runs.skip ?_
    refine kS_nrm ?_
    refine Runs.gsame (by kernel_rfl) ?_
    refine Runs.gnil ?_
    obtain rfl := Option.some.inj h
    exact ⟨Out.nrm_ne, (by kernel_rfl)⟩
theorem index_Source_Wrong_L (s_ : Source) (e_ : Int) (r : Source) (h : index_Source_Wrong s_ e_ = some r) : L 27 [.ptr [.d (.sl (List.map (D.int .u8) s_.b)), .d (.int .i64 s_.e)], .d (.int .i64 e_)] = some (.tup [], [.ptr [.d (.sl (List.map (D.int .u8) r.b)), .d (.int .i64 r.e)], .d (.int .i64 e_)]) := by
  obtain ⟨p, ⟨hne, hf⟩, hr⟩ := index_Source_Wrong_ok s_ e_ r h
  obtain ⟨k, hk⟩ := run_of (F := F27) (args := [.ptr [.d (.sl (List.map (D.int .u8) s_.b)), .d (.int .i64 s_.e)], .d (.int .i64 e_)]) (ap := [.ptr [0] 0 0, .d (.int .i64 e_)]) (bx0 := updW (fun _ => none) [([0], some (.cells [.d (.sl (List.map (D.int .u8) s_.b)), .d (.int .i64 s_.e)] 0))]) rfl rfl (by kernel_rfl) ⟨p, ⟨hne, hf⟩, hr⟩
  exact lim_run (k := k) rfl hk
def index_Source_Take_Q (s_ : Source) (n_ : Int) (r : ((List Int) × Source)) (p : Out × St) : Prop := (∀ i, p.1 ≠ .exit i) ∧ finF F26 [.ptr [0] 0 0, .d (.int .i64 n_)] p.2 = some (.d (.sl (List.map (D.int .u8) r.1)), [.ptr [.d (.sl (List.map (D.int .u8) r.2.b)), .d (.int .i64 r.2.e)], .d (.int .i64 n_)])
theorem index_Source_Take_ok (s_ : Source) (n_ : Int) (r : ((List Int) × Source)) (h : index_Source_Take s_ n_ = some r) : Runs L F26.body ⟨tmOf [.ptr [0] 0 0, .d (.int .i64 n_)] 0, updW (fun _ => none) [([0], some (.cells [.d (.sl (List.map (D.int .u8) s_.b)), .d (.int .i64 s_.e)] 0))]⟩ (index_Source_Take_Q s_ n_ r) := by
  unfold index_Source_Take at h
  refine Runs.seq ?_
  refine Runs.ops ?_
  refine RunAt.chunk 1 [⟨.nils, []⟩] (by kernel_rfl) ?_
  refine RunAt.done (by kernel_rfl) ?_
  refine kS_nrm ?_
  refine Runs.seq ?_
  refine Runs.seq ?_
  refine Runs.ops ?_
  refine RunAt.chunk 2 [⟨.ptr [0] 0 0, []⟩, ⟨.d (.bool false), []⟩] (by kernel_rfl) ?_
  refine RunAt.done (by kernel_rfl) ?_
  refine kS_nrm ?_
  refine Runs.cond_f (by kernel_rfl) ?_
  refine Runs.skip ?_
  refine kS_nrm ?_
  refine Runs.seq ?_
  refine Runs.seq ?_
  refine Runs.ops ?_
  refine RunAt.chunk 3 [⟨.d (.int .i64 n_), []⟩, ⟨.d (.bool (decide (n_ < 0))), []⟩, ⟨.d (.bool (decide (n_ < 0))), []⟩] (by kernel_rfl) ?_
  cases hb_1 : ((decide (n_ < 0)) : Bool) with
  | true =>
    replace h := ite_t hb_1 h
    refine RunAt.chunk 8 [⟨.tup [], []⟩, ⟨.tup [], []⟩, ⟨.tup [], []⟩, ⟨.tup [], []⟩, ⟨.tup [], []⟩, ⟨.tup [], []⟩, ⟨.tup [], []⟩, ⟨.d (.bool true), []⟩] (by kernel_rfl) ?_
    refine RunAt.done (by kernel_rfl) ?_
    refine kS_nrm ?_
    refine Runs.cond_t (by kernel_rfl) ?_
    refine Runs.seq ?_
    refine Runs.ops ?_
    refine RunAt.chunk 1 [⟨.ptr [0] 0 0, []⟩] (by kernel_rfl) ?_
    obtain ⟨r_1, hr_1, h⟩ := bind_s h
    have hc_1 := index_Source_Wrong_L s_ 2 r_1 hr_1
    refine RunAt.cut (some 20) (.callf 27) [] none [.ptr [0] 0 0, .d (.int .i64 2)] (.tup []) [([0], some (.cells [.d (.sl (List.map (D.int .u8) r_1.b)), .d (.int .i64 r_1.e)] 0))] (by kernel_rfl) (by kernel_rfl) (by kernel_rfl) (cut_call (call_of (ws := []) (us := [([0], some (.cells [.d (.sl (List.map (D.int .u8) r_1.b)), .d (.int .i64 r_1.e)] 0))]) (by kernel_rfl) (by kernel_rfl) hc_1 (by kernel_rfl) (by kernel_rfl))) ?_
    refine RunAt.done (by kernel_rfl) ?_
    refine kS_nrm ?_
    refine Runs.seq ?_
    refine Runs.ops ?_
    refine RunAt.chunk 1 [⟨.nils, []⟩] (by kernel_rfl) ?_
    refine RunAt.done (by kernel_rfl) ?_
    refine kS_nrm ?_
    refine Runs.seq ?_
    refine Runs.gcons (frz_nil (D.int .u8) (by kernel_rfl)) ?_
    refine Runs.gnil ?_
    refine kS_nrm ?_
    refine Runs.ret ?_
    refine kS_ret ?_
    obtain rfl := Option.some.inj h
    exact ⟨Out.ret_ne, (by kernel_rfl)⟩
  | false =>
    replace h := ite_f hb_1 h
    refine RunAt.chunk 5 [⟨.d (.int .i64 n_), []⟩, ⟨.ptr [0] 0 0, []⟩, ⟨.ptr [0] 0 0, []⟩, ⟨.ptr [0] 0 0, []⟩, ⟨.d (.sl (List.map (D.int .u8) s_.b)), []⟩] (by kernel_rfl) ?_
    refine RunAt.cut (some 16) .lenL [] none [.d (.sl (List.map (D.int .u8) s_.b))] (.d (.int .i64 (s_.b.length : Int))) [] (by kernel_rfl) (by kernel_rfl) (by kernel_rfl) (cut_len _) ?_
    refine RunAt.chunk 2 [⟨.d (.bool (decide (n_ > (s_.b.length : Int)))), []⟩, ⟨.d (.bool (decide (n_ > (s_.b.length : Int)))), []⟩] (by kernel_rfl) ?_
    refine RunAt.done (by kernel_rfl) ?_
    refine kS_nrm ?_
    cases hb_2 : ((decide (n_ > (s_.b.length : Int))) : Bool) with
    | true =>
      replace h := ite_t hb_2 h
      refine Runs.cond_t (by kernel_rfl) ?_
      refine Runs.seq ?_
      refine Runs.ops ?_
      refine RunAt.chunk 1 [⟨.ptr [0] 0 0, []⟩] (by kernel_rfl) ?_
      obtain ⟨r_2, hr_2, h⟩ := bind_s h
      have hc_2 := index_Source_Wrong_L s_ 2 r_2 hr_2
      refine RunAt.cut (some 20) (.callf 27) [] none [.ptr [0] 0 0, .d (.int .i64 2)] (.tup []) [([0], some (.cells [.d (.sl (List.map (D.int .u8) r_2.b)), .d (.int .i64 r_2.e)] 0))] (by kernel_rfl) (by kernel_rfl) (by kernel_rfl) (cut_call (call_of (ws := []) (us := [([0], some (.cells [.d (.sl (List.map (D.int .u8) r_2.b)), .d (.int .i64 r_2.e)] 0))]) (by kernel_rfl) (by kernel_rfl) hc_2 (by kernel_rfl) (by kernel_rfl))) ?_
      refine RunAt.done (by kernel_rfl) ?_
      refine kS_nrm ?_
      refine Runs.seq ?_
      refine Runs.ops ?_
      refine RunAt.chunk 1 [⟨.nils, []⟩] (by kernel_rfl) ?_
      refine RunAt.done (by kernel_rfl) ?_
      refine kS_nrm ?_
      refine Runs.seq ?_
      refine Runs.gcons (frz_nil (D.int .u8) (by kernel_rfl)) ?_
      refine Runs.gnil ?_
      refine kS_nrm ?_
      refine Runs.ret ?_
      refine kS_ret ?_
      obtain rfl := Option.some.inj h
      exact ⟨Out.ret_ne, (by kernel_rfl)⟩
    | false =>
      replace h := ite_f hb_2 h
      refine Runs.cond_f (by kernel_rfl) ?_
      refine Runs.skip ?_
      refine kS_nrm ?_
      refine Runs.seq ?_
      refine Runs.ops ?_
      refine RunAt.chunk 6 [⟨.ptr [0] 0 0, []⟩, ⟨.ptr [0] 0 0, []⟩, ⟨.ptr [0] 0 0, []⟩, ⟨.d (.sl (List.map (D.int .u8) s_.b)), []⟩, ⟨.d (.int .i64 n_), []⟩, ⟨.d (.int .i64 n_), []⟩] (by kernel_rfl) ?_
      obtain ⟨z_1, hz_1, h⟩ := bind_s h
      refine RunAt.cut (some 27) (.subsl 1 false true true) [] none [.d (.sl (List.map (D.int .u8) s_.b)), .d (.int .i64 n_), .d (.int .i64 n_)] (.d (.sl (List.map (D.int .u8) z_1))) [] (by kernel_rfl) (by kernel_rfl) (by kernel_rfl) (cut_slFTT hz_1 (fun _ => rfl)) ?_
      refine RunAt.chunk 1 [⟨.d (.sl (List.map (D.int .u8) z_1)), []⟩] (by kernel_rfl) ?_
      refine RunAt.done (by kernel_rfl) ?_
      refine kS_nrm ?_
      refine Runs.seq ?_
      refine Runs.ops ?_
      refine RunAt.chunk 6 [⟨.ptr [0] 0 0, []⟩, ⟨.ptr [0] 0 0, []⟩, ⟨.ptr [0] 0 0, []⟩, ⟨.ptr [0] 0 0, []⟩, ⟨.d (.sl (List.map (D.int .u8) s_.b)), []⟩, ⟨.d (.int .i64 n_), []⟩] (by kernel_rfl) ?_
      obtain ⟨z_2, hz_2, h⟩ := bind_s h
      refine RunAt.cut (some 34) (.subsl 1 true false false) [] none [.d (.sl (List.map (D.int .u8) s_.b)), .d (.int .i64 n_)] (.d (.sl (List.map (D.int .u8) z_2))) [] (by kernel_rfl) (by kernel_rfl) (by kernel_rfl) (cut_slTF hz_2 (fun _ => rfl)) ?_
      refine RunAt.chunk 3 [⟨.ptr [0] 0 0, []⟩, ⟨.ptr [0] 0 0, []⟩, ⟨.tup [], [([0], some (.cells [.d (.sl (List.map (D.int .u8) z_2)), .d (.int .i64 s_.e)] 0))]⟩] (by kernel_rfl) ?_
      refine RunAt.done (by kernel_rfl) ?_
      refine kS_nrm ?_
      refine Runs.seq ?_
      refine Runs.ops ?_
      refine RunAt.chunk 2 [⟨.d (.sl (List.map (D.int .u8) z_1)), []⟩, ⟨.d (.sl (List.map (D.int .u8) z_1)), []⟩] (by kernel_rfl) ?_
      refine RunAt.done (by kernel_rfl) ?_
      refine kS_nrm ?_
      refine Runs.ret ?_
      obtain rfl := Option.some.inj h
      exact ⟨Out.ret_ne, (by kernel_rfl)⟩
theorem index_Source_Take_L (s_ : Source) (n_ : Int) (r : ((List Int) × Source)) (h : index_Source_Take s_ n_ = some r) : L 26 [.ptr [.d (.sl (List.map (D.int .u8) s_.b)), .d (.int .i64 s_.e)], .d (.int .i64 n_)] = some (.d (.sl (List.map (D.int .u8) r.1)), [.ptr [.d (.sl (List.map (D.int .u8) r.2.b)), .d (.int .i64 r.2.e)], .d (.int .i64 n_)]) := by
  obtain ⟨p, ⟨hne, hf⟩, hr⟩ := index_Source_Take_ok s_ n_ r h
  obtain ⟨k, hk⟩ := run_of (F := F26) (args := [.ptr [.d (.sl (List.map (D.int .u8) s_.b)), .d (.int .i64 s_.e)], .d (.int .i64 n_)]) (ap := [.ptr [0] 0 0, .d (.int .i64 n_)]) (bx0 := updW (fun _ => none) [([0], some (.cells [.d (.sl (List.map (D.int .u8) s_.b)), .d (.int .i64 s_.e)] 0))]) rfl rfl (by kernel_rfl) ⟨p, ⟨hne, hf⟩, hr⟩
  exact lim_run (k := k) rfl hk
def index_Source_Byte_Q (s_ : Source) (r : (Int × Source)) (p : Out × St) : Prop := (∀ i, p.1 ≠ .exit i) ∧ finF F35 [.ptr [0] 0 0] p.2 = some (.d (.int .u8 r.1), [.ptr [.d (.sl (List.map (D.int .u8) r.2.b)), .d (.int .i64 r.2.e)]])
theorem index_Source_Byte_ok (s_ : Source) (r : (Int × Source)) (h : index_Source_Byte s_ = some r) : Runs L F35.body ⟨tmOf [.ptr [0] 0 0] 0, updW (fun _ => none) [([0], some (.cells [.d (.sl (List.map (D.int .u8) s_.b)), .d (.int .i64 s_.e)] 0))]⟩ (index_Source_Byte_Q s_ r) := by
  unfold index_Source_Byte at h
  refine Runs.seq ?_
  refine Runs.ops ?_
  refine RunAt.chunk 1 [⟨.d (.int .u8 0), []⟩] (by kernel_rfl) ?_
  refine RunAt.done (by kernel_rfl) ?_
  refine kS_nrm ?_
  refine Runs.seq ?_
  refine Runs.seq ?_
  refine Runs.ops ?_
  refine RunAt.chunk 1 [⟨.ptr [0] 0 0, []⟩] (by kernel_rfl) ?_
  obtain ⟨r_1, hr_1, h⟩ := bind_s h
  have hc_1 := index_Source_Take_L s_ 1 r_1 hr_1
  refine RunAt.cut (some 5) (.callf 26) [] none [.ptr [0] 0 0, .d (.int .i64 1)] (.d (.sl (List.map (D.int .u8) r_1.1))) [([0], some (.cells [.d (.sl (List.map (D.int .u8) r_1.2.b)), .d (.int .i64 r_1.2.e)] 0))] (by kernel_rfl) (by kernel_rfl) (by kernel_rfl) (cut_call (call_of (ws := []) (us := [([0], some (.cells [.d (.sl (List.map (D.int .u8) r_1.2.b)), .d (.int .i64 r_1.2.e)] 0))]) (by kernel_rfl) (by kernel_rfl) hc_1 (by kernel_rfl) (by kernel_rfl))) ?_
  refine RunAt.chunk 1 [⟨.d (.sl (List.map (D.int .u8) r_1.1)), []⟩] (by kernel_rfl) ?_
  refine RunAt.done (by kernel_rfl) ?_
  refine kS_nrm ?_
  refine Runs.seq ?_
  refine Runs.ops ?_
  refine RunAt.chunk 1 [⟨.d (.sl (List.map (D.int .u8) r_1.1)), []⟩] (by kernel_rfl) ?_
  refine RunAt.cut (some 7) .lenL [] none [.d (.sl (List.map (D.int .u8) r_1.1))] (.d (.int .i64 (r_1.1.length : Int))) [] (by kernel_rfl) (by kernel_rfl) (by kernel_rfl) (cut_len _) ?_
  refine RunAt.chunk 1 [⟨.d (.bool ((r_1.1.length : Int) == 1)), []⟩] (by kernel_rfl) ?_
  refine RunAt.done (by kernel_rfl) ?_
  refine kS_nrm ?_
  cases hb_1 : (((r_1.1.length : Int) == 1) : Bool) with
  | true =>
    replace h := ite_t hb_1 h
    refine Runs.cond_t (by kernel_rfl) ?_
    refine Runs.seq ?_
    refine Runs.ops ?_
    refine RunAt.chunk 1 [⟨.d (.sl (List.map (D.int .u8) r_1.1)), []⟩] (by kernel_rfl) ?_
    obtain ⟨z_1, hz_1, h⟩ := bind_s h
    refine RunAt.cut (some 10) (.iaddrS 1) [] none [.d (.sl (List.map (D.int .u8) r_1.1)), .d (.int .i64 0)] (.elt (.int .u8 z_1) 0) [] (by kernel_rfl) (by kernel_rfl) (by kernel_rfl) (cut_at hz_1 (fun _ => rfl)) ?_
    refine RunAt.chunk 2 [⟨.d (.int .u8 z_1), []⟩, ⟨.d (.int .u8 z_1), []⟩] (by kernel_rfl) ?_
    refine RunAt.done (by kernel_rfl) ?_
    refine kS_nrm ?_
    refine Runs.ret ?_
    refine kS_ret ?_
    obtain rfl := Option.some.inj h
    exact ⟨Out.ret_ne, (by kernel_rfl)⟩
  | false =>
    replace h := ite_f hb_1 h
    refine Runs.cond_f (by kernel_rfl) ?_
    refine Runs.skip ?_
    refine kS_nrm ?_
    refine Runs.seq ?_
    refine Runs.ops ?_
    refine RunAt.chunk 1 [⟨.d (.int .u8 0), []⟩] (by kernel_rfl) ?_
    refine RunAt.done (by kernel_rfl) ?_
    refine kS_nrm ?_
    refine Runs.ret ?_
    obtain rfl := Option.some.inj h
    exact ⟨Out.ret_ne, (by kernel_rfl)⟩
theorem index_Source_Byte_L (s_ : Source) (r : (Int × Source)) (h : index_Source_Byte s_ = some r) : L 35 [.ptr [.d (.sl (List.map (D.int .u8) s_.b)), .d (.int .i64 s_.e)]] = some (.d (.int .u8 r.1), [.ptr [.d (.sl (List.map (D.int .u8) r.2.b)), .d (.int .i64 r.2.e)]]) := by
  obtain ⟨p, ⟨hne, hf⟩, hr⟩ := index_Source_Byte_ok s_ r h
  obtain ⟨k, hk⟩ := run_of (F := F35) (args := [.ptr [.d (.sl (List.map (D.int .u8) s_.b)), .d (.int .i64 s_.e)]]) (ap := [.ptr [0] 0 0]) (bx0 := updW (fun _ => none) [([0], some (.cells [.d (.sl (List.map (D.int .u8) s_.b)), .d (.int .i64 s_.e)] 0))]) rfl rfl (by kernel_rfl) ⟨p, ⟨hne, hf⟩, hr⟩
  exact lim_run (k := k) rfl hk
def index_Source_Err_Q (s_ : Source) (r : Int) (p : Out × St) : Prop := (∀ i, p.1 ≠ .exit i) ∧ finF F28 [.ptr [0] 0 0] p.2 = some (.d (.int .i64 r), [.ptr [.d (.sl (List.map (D.int .u8) s_.b)), .d (.int .i64 s_.e)]])
theorem index_Source_Err_ok (s_ : Source) (r : Int) (h : index_Source_Err s_ = some r) : Runs L F28.body ⟨tmOf [.ptr [0] 0 0] 0, updW (fun _ => none) [([0], some (.cells [.d (.sl (List.map (D.int .u8) s_.b)), .d (.int .i64 s_.e)] 0))]⟩ (index_Source_Err_Q s_ r) := by
  unfold index_Source_Err at h
  refine Runs.seq ?_
  refine Runs.ops ?_
  refine RunAt.chunk 1 [⟨.d (.int .i64 0), []⟩] (by kernel_rfl) ?_
  refine RunAt.done (by kernel_rfl) ?_
  refine kS_nrm ?_
  refine Runs.seq ?_
  refine Runs.seq ?_
  refine Runs.ops ?_
  refine RunAt.chunk 2 [⟨.ptr [0] 0 0, []⟩, ⟨.d (.bool false), []⟩] (by kernel_rfl) ?_
  refine RunAt.done (by kernel_rfl) ?_
  refine kS_nrm ?_
  refine Runs.cond_f (by kernel_rfl) ?_
  refine Runs.skip ?_
  refine kS_nrm ?_
  refine Runs.seq ?_
  refine Runs.ops ?_
  refine RunAt.chunk 5 [⟨.ptr [0] 0 0, []⟩, ⟨.ptr [0] 0 0, []⟩, ⟨.ptr [0] 0 1, []⟩, ⟨.d (.int .i64 s_.e), []⟩, ⟨.d (.int .i64 s_.e), []⟩] (by kernel_rfl) ?_
  refine RunAt.done (by kernel_rfl) ?_
  refine kS_nrm ?_
  refine Runs.ret ?_
  obtain rfl := Option.some.inj h
  exact ⟨Out.ret_ne, (by kernel_rfl)⟩
theorem index_Source_Err_L (s_ : Source) (r : Int) (h : index_Source_Err s_ = some r) : L 28 [.ptr [.d (.sl (List.map (D.int .u8) s_.b)), .d (.int .i64 s_.e)]] = some (.d (.int .i64 r), [.ptr [.d (.sl (List.map (D.int .u8) s_.b)), .d (.int .i64 s_.e)]]) := by
  obtain ⟨p, ⟨hne, hf⟩, hr⟩ := index_Source_Err_ok s_ r h
  obtain ⟨k, hk⟩ := run_of (F := F28) (args := [.ptr [.d (.sl (List.map (D.int .u8) s_.b)), .d (.int .i64 s_.e)]]) (ap := [.ptr [0] 0 0]) (bx0 := updW (fun _ => none) [([0], some (.cells [.d (.sl (List.map (D.int .u8) s_.b)), .d (.int .i64 s_.e)] 0))]) rfl rfl (by kernel_rfl) ⟨p, ⟨hne, hf⟩, hr⟩
  exact lim_run (k := k) rfl hk
def index_Source_Index_Q (s_ : Source) (r : (Int × Source)) (p : Out × St) : Prop := (∀ i, p.1 ≠ .exit i) ∧ finF F31 [.ptr [0] 0 0] p.2 = some (.d (.int .i64 r.1), [.ptr [.d (.sl (List.map (D.int .u8) r.2.b)), .d (.int .i64 r.2.e)]])
theorem index_Source_Index_ok (s_ : Source) (r : (Int × Source)) (h : index_Source_Index s_ = some r) : Runs L F31.body ⟨tmOf [.ptr [0] 0 0] 0, updW (fun _ => none) [([0], some (.cells [.d (.sl (List.map (D.int .u8) s_.b)), .d (.int .i64 s_.e)] 0))]⟩ (index_Source_Index_Q s_ r) := by
  unfold index_Source_Index at h
  refine Runs.seq ?_
  refine Runs.ops ?_
  refine RunAt.chunk 1 [⟨.d (.int .i64 0), []⟩] (by kernel_rfl) ?_
  refine RunAt.done (by kernel_rfl) ?_
  refine kS_nrm ?_
  refine Runs.seq ?_
  refine Runs.ops ?_
  refine RunAt.chunk 1 [⟨.ptr [0] 0 0, []⟩] (by kernel_rfl) ?_
  obtain ⟨r_1, hr_1, h⟩ := bind_s h
  have hc_1 := index_Source_Byte_L s_ r_1 hr_1
  refine RunAt.cut (some 6) (.callf 35) [] none [.ptr [0] 0 0] (.d (.int .u8 r_1.1)) [([0], some (.cells [.d (.sl (List.map (D.int .u8) r_1.2.b)), .d (.int .i64 r_1.2.e)] 0))] (by kernel_rfl) (by kernel_rfl) (by kernel_rfl) (cut_call (call_of (ws := []) (us := [([0], some (.cells [.d (.sl (List.map (D.int .u8) r_1.2.b)), .d (.int .i64 r_1.2.e)] 0))]) (by kernel_rfl) (by kernel_rfl) hc_1 (by kernel_rfl) (by kernel_rfl))) ?_
  refine RunAt.chunk 2 [⟨.d (.int .i64 (IntKind.wrap .i64 r_1.1)), []⟩, ⟨.d (.int .i64 (IntKind.wrap .i64 r_1.1)), []⟩] (by kernel_rfl) ?_
  refine RunAt.done (by kernel_rfl) ?_
  refine kS_nrm ?_
  refine Runs.seq ?_
  refine Runs.seq ?_
  refine Runs.ops ?_
  refine RunAt.chunk 2 [⟨.d (.int .i64 (IntKind.wrap .i64 r_1.1)), []⟩, ⟨.d (.bool (decide ((IntKind.wrap .i64 r_1.1) < 128))), []⟩] (by kernel_rfl) ?_
  refine RunAt.done (by kernel_rfl) ?_
  refine kS_nrm ?_
  cases hb_1 : ((decide ((IntKind.wrap .i64 r_1.1) < 128)) : Bool) with
  | true =>
    replace h := ite_t hb_1 h
    refine Runs.cond_t (by kernel_rfl) ?_
    refine Runs.seq ?_
    refine Runs.ops ?_
    refine RunAt.chunk 2 [⟨.d (.int .i64 (IntKind.wrap .i64 r_1.1)), []⟩, ⟨.d (.int .i64 (IntKind.wrap .i64 r_1.1)), []⟩] (by kernel_rfl) ?_
    refine RunAt.done (by kernel_rfl) ?_
    refine kS_nrm ?_
    refine Runs.ret ?_
    refine kS_ret ?_
    obtain rfl := Option.some.inj h
    exact ⟨Out.ret_ne, (by kernel_rfl)⟩
  | false =>
    replace h := ite_f hb_1 h
    refine Runs.cond_f (by kernel_rfl) ?_
    refine Runs.skip ?_
    refine kS_nrm ?_
    refine Runs.seq ?_
    refine Runs.ops ?_
    refine RunAt.chunk 4 [⟨.d (.int .i64 (IntKind.wrap .i64 r_1.1)), []⟩, ⟨.d (.int .i64 (bitsOp .and .i64 (IntKind.wrap .i64 r_1.1) 127)), []⟩, ⟨.d (.int .i64 (shlI .i64 (bitsOp .and .i64 (IntKind.wrap .i64 r_1.1) 127) 8)), []⟩, ⟨.ptr [0] 0 0, []⟩] (by kernel_rfl) ?_
    obtain ⟨r_2, hr_2, h⟩ := bind_s h
    have hc_2 := index_Source_Byte_L r_1.2 r_2 hr_2
    refine RunAt.cut (some 15) (.callf 35) [] none [.ptr [0] 0 0] (.d (.int .u8 r_2.1)) [([0], some (.cells [.d (.sl (List.map (D.int .u8) r_2.2.b)), .d (.int .i64 r_2.2.e)] 0))] (by kernel_rfl) (by kernel_rfl) (by kernel_rfl) (cut_call (call_of (ws := []) (us := [([0], some (.cells [.d (.sl (List.map (D.int .u8) r_2.2.b)), .d (.int .i64 r_2.2.e)] 0))]) (by kernel_rfl) (by kernel_rfl) hc_2 (by kernel_rfl) (by kernel_rfl))) ?_
    refine RunAt.chunk 3 [⟨.d (.int .i64 (IntKind.wrap .i64 r_2.1)), []⟩, ⟨.d (.int .i64 (bitsOp .or .i64 (shlI .i64 (bitsOp .and .i64 (IntKind.wrap .i64 r_1.1) 127) 8) (IntKind.wrap .i64 r_2.1))), []⟩, ⟨.d (.int .i64 (bitsOp .or .i64 (shlI .i64 (bitsOp .and .i64 (IntKind.wrap .i64 r_1.1) 127) 8) (IntKind.wrap .i64 r_2.1))), []⟩] (by kernel_rfl) ?_
    refine RunAt.done (by kernel_rfl) ?_
    refine kS_nrm ?_
    refine Runs.seq ?_
    refine Runs.seq ?_
    refine Runs.ops ?_
    refine RunAt.chunk 1 [⟨.ptr [0] 0 0, []⟩] (by kernel_rfl) ?_
    obtain ⟨r_3, hr_3, h⟩ := bind_s h
    have hc_3 := index_Source_Err_L r_2.2 r_3 hr_3
    refine RunAt.cut (some 19) (.callf 28) [] none [.ptr [0] 0 0] (.d (.int .i64 r_3)) [([0], some (.cells [.d (.sl (List.map (D.int .u8) r_2.2.b)), .d (.int .i64 r_2.2.e)] 0))] (by kernel_rfl) (by kernel_rfl) (by kernel_rfl) (cut_call (call_of (ws := []) (us := [([0], some (.cells [.d (.sl (List.map (D.int .u8) r_2.2.b)), .d (.int .i64 r_2.2.e)] 0))]) (by kernel_rfl) (by kernel_rfl) hc_3 (by kernel_rfl) (by kernel_rfl))) ?_
    refine RunAt.chunk 1 [⟨.d (.bool (r_3 != 0)), []⟩] (by kernel_rfl) ?_
    refine RunAt.done (by kernel_rfl) ?_
    refine kS_nrm ?_
    cases hb_2 : ((r_3 != 0) : Bool) with
    | true =>
      replace h := ite_t hb_2 h
      refine Runs.cond_t (by kernel_rfl) ?_
      refine Runs.seq ?_
      refine Runs.ops ?_
      refine RunAt.chunk 1 [⟨.d (.int .i64 0), []⟩] (by kernel_rfl) ?_
      refine RunAt.done (by kernel_rfl) ?_
      refine kS_nrm ?_
      refine Runs.ret ?_
      refine kS_ret ?_
      obtain rfl := Option.some.inj h
      exact ⟨Out.ret_ne, (by kernel_rfl)⟩
    | false =>
      replace h := ite_f hb_2 h
      refine Runs.cond_f (by kernel_rfl) ?_
      refine Runs.skip ?_
      refine kS_nrm ?_
      refine Runs.seq ?_
      refine Runs.ops ?_
      refine RunAt.chunk 2 [⟨.d (.int .i64 (bitsOp .or .i64 (shlI .i64 (bitsOp .and .i64 (IntKind.wrap .i64 r_1.1) 127) 8) (IntKind.wrap .i64 r_2.1))), []⟩, ⟨.d (.int .i64 (bitsOp .or .i64 (shlI .i64 (bitsOp .and .i64 (IntKind.wrap .i64 r_1.1) 127) 8) (IntKind.wrap .i64 r_2.1))), []⟩] (by kernel_rfl) ?_
      refine RunAt.done (by kernel_rfl) ?_
      refine kS_nrm ?_
      refine Runs.ret ?_
      obtain rfl := Option.some.inj h
      exact ⟨Out.ret_ne, (by kernel_rfl)⟩
theorem index_Source_Index_L (s_ : Source) (r : (Int × Source)) (h : index_Source_Index s_ = some r) : L 31 [.ptr [.d (.sl (List.map (D.int .u8) s_.b)), .d (.int .i64 s_.e)]] = some (.d (.int .i64 r.1), [.ptr [.d (.sl (List.map (D.int .u8) r.2.b)), .d (.int .i64 r.2.e)]]) := by
  obtain ⟨p, ⟨hne, hf⟩, hr⟩ := index_Source_Index_ok s_ r h
  obtain ⟨k, hk⟩ := run_of (F := F31) (args := [.ptr [.d (.sl (List.map (D.int .u8) s_.b)), .d (.int .i64 s_.e)]]) (ap := [.ptr [0] 0 0]) (bx0 := updW (fun _ => none) [([0], some (.cells [.d (.sl (List.map (D.int .u8) s_.b)), .d (.int .i64 s_.e)] 0))]) rfl rfl (by kernel_rfl) ⟨p, ⟨hne, hf⟩, hr⟩
  exact lim_run (k := k) rfl hk
def bits_Word_Q (low_ : Int) (high_ : Int) (r : Int) (p : Out × St) : Prop := (∀ i, p.1 ≠ .exit i) ∧ finF F69 [.d (.int .u8 low_), .d (.int .u8 high_)] p.2 = some (.d (.int .u16 r), [.d (.int .u8 low_), .d (.int .u8 high_)])
theorem bits_Word_ok (low_ : Int) (high_ : Int) (r : Int) (h : bits_Word low_ high_ = some r) : Runs L F69.body ⟨tmOf [.d (.int .u8 low_), .d (.int .u8 high_)] 0, updW (fun _ => none) []⟩ (bits_Word_Q low_ high_ r) := by
  unfold bits_Word at h
  refine Runs.seq ?_
  refine Runs.ops ?_
  refine RunAt.chunk 1 [⟨.d (.int .u16 0), []⟩] (by kernel_rfl) ?_
  refine RunAt.done (by kernel_rfl) ?_
  refine kS_nrm ?_
  refine Runs.seq ?_
  refine Runs.ops ?_
  refine RunAt.chunk 7 [⟨.d (.int .u8 low_), []⟩, ⟨.d (.int .u16 (IntKind.wrap .u16 low_)), []⟩, ⟨.d (.int .u8 high_), []⟩, ⟨.d (.int .u16 (IntKind.wrap .u16 high_)), []⟩, ⟨.d (.int .u16 (shlI .u16 (IntKind.wrap .u16 high_) 8)), []⟩, ⟨.d (.int .u16 (bitsOp .or .u16 (IntKind.wrap .u16 low_) (shlI .u16 (IntKind.wrap .u16 high_) 8))), []⟩, ⟨.d (.int .u16 (bitsOp .or .u16 (IntKind.wrap .u16 low_) (shlI .u16 (IntKind.wrap .u16 high_) 8))), []⟩] (by kernel_rfl) ?_
  refine RunAt.done (by kernel_rfl) ?_
  refine kS_nrm ?_
  refine Runs.ret ?_
  obtain rfl := Option.some.inj h
  exact ⟨Out.ret_ne, (by kernel_rfl)⟩
theorem bits_Word_L (low_ : Int) (high_ : Int) (r : Int) (h : bits_Word low_ high_ = some r) : L 69 [.d (.int .u8 low_), .d (.int .u8 high_)] = some (.d (.int .u16 r), [.d (.int .u8 low_), .d (.int .u8 high_)]) := by
  obtain ⟨p, ⟨hne, hf⟩, hr⟩ := bits_Word_ok low_ high_ r h
  obtain ⟨k, hk⟩ := run_of (F := F69) (args := [.d (.int .u8 low_), .d (.int .u8 high_)]) (ap := [.d (.int .u8 low_), .d (.int .u8 high_)]) (bx0 := updW (fun _ => none) []) rfl rfl (by kernel_rfl) ⟨p, ⟨hne, hf⟩, hr⟩
  exact lim_run (k := k) rfl hk
def index_Source_Word_Q (s_ : Source) (r : (Int × Source)) (p : Out × St) : Prop := (∀ i, p.1 ≠ .exit i) ∧ finF F30 [.ptr [0] 0 0] p.2 = some (.d (.int .u16 r.1), [.ptr [.d (.sl (List.map (D.int .u8) r.2.b)), .d (.int .i64 r.2.e)]])
theorem index_Source_Word_ok (s_ : Source) (r : (Int × Source)) (h : index_Source_Word s_ = some r) : Runs L F30.body ⟨tmOf [.ptr [0] 0 0] 0, updW (fun _ => none) [([0], some (.cells [.d (.sl (List.map (D.int .u8) s_.b)), .d (.int .i64 s_.e)] 0))]⟩ (index_Source_Word_Q s_ r) := by
  unfold index_Source_Word at h
  refine Runs.seq ?_
  refine Runs.ops ?_
  refine RunAt.chunk 1 [⟨.d (.int .u16 0), []⟩] (by kernel_rfl) ?_
  refine RunAt.done (by kernel_rfl) ?_
  refine kS_nrm ?_
  refine Runs.seq ?_
  refine Runs.seq ?_
  refine Runs.ops ?_
  refine RunAt.chunk 1 [⟨.ptr [0] 0 0, []⟩] (by kernel_rfl) ?_
  obtain ⟨r_1, hr_1, h⟩ := bind_s h
  have hc_1 := index_Source_Take_L s_ 2 r_1 hr_1
  refine RunAt.cut (some 5) (.callf 26) [] none [.ptr [0] 0 0, .d (.int .i64 2)] (.d (.sl (List.map (D.int .u8) r_1.1))) [([0], some (.cells [.d (.sl (List.map (D.int .u8) r_1.2.b)), .d (.int .i64 r_1.2.e)] 0))] (by kernel_rfl) (by kernel_rfl) (by kernel_rfl) (cut_call (call_of (ws := []) (us := [([0], some (.cells [.d (.sl (List.map (D.int .u8) r_1.2.b)), .d (.int .i64 r_1.2.e)] 0))]) (by kernel_rfl) (by kernel_rfl) hc_1 (by kernel_rfl) (by kernel_rfl))) ?_
  refine RunAt.chunk 1 [⟨.d (.sl (List.map (D.int .u8) r_1.1)), []⟩] (by kernel_rfl) ?_
  refine RunAt.done (by kernel_rfl) ?_
  refine kS_nrm ?_
  refine Runs.seq ?_
  refine Runs.ops ?_
  refine RunAt.chunk 1 [⟨.d (.sl (List.map (D.int .u8) r_1.1)), []⟩] (by kernel_rfl) ?_
  refine RunAt.cut (some 7) .lenL [] none [.d (.sl (List.map (D.int .u8) r_1.1))] (.d (.int .i64 (r_1.1.length : Int))) [] (by kernel_rfl) (by kernel_rfl) (by kernel_rfl) (cut_len _) ?_
  refine RunAt.chunk 1 [⟨.d (.bool ((r_1.1.length : Int) == 2)), []⟩] (by kernel_rfl) ?_
  refine RunAt.done (by kernel_rfl) ?_
  refine kS_nrm ?_
  cases hb_1 : (((r_1.1.length : Int) == 2) : Bool) with
  | true =>
    replace h := ite_t hb_1 h
    refine Runs.cond_t (by kernel_rfl) ?_
    refine Runs.seq ?_
    refine Runs.ops ?_
    refine RunAt.chunk 1 [⟨.d (.sl (List.map (D.int .u8) r_1.1)), []⟩] (by kernel_rfl) ?_
    obtain ⟨z_1, hz_1, h⟩ := bind_s h
    refine RunAt.cut (some 10) (.iaddrS 1) [] none [.d (.sl (List.map (D.int .u8) r_1.1)), .d (.int .i64 0)] (.elt (.int .u8 z_1) 0) [] (by kernel_rfl) (by kernel_rfl) (by kernel_rfl) (cut_at hz_1 (fun _ => rfl)) ?_
    refine RunAt.chunk 2 [⟨.d (.int .u8 z_1), []⟩, ⟨.d (.sl (List.map (D.int .u8) r_1.1)), []⟩] (by kernel_rfl) ?_
    obtain ⟨z_2, hz_2, h⟩ := bind_s h
    refine RunAt.cut (some 13) (.iaddrS 1) [] none [.d (.sl (List.map (D.int .u8) r_1.1)), .d (.int .i64 1)] (.elt (.int .u8 z_2) 0) [] (by kernel_rfl) (by kernel_rfl) (by kernel_rfl) (cut_at hz_2 (fun _ => rfl)) ?_
    refine RunAt.chunk 1 [⟨.d (.int .u8 z_2), []⟩] (by kernel_rfl) ?_
    obtain ⟨r_2, hr_2, h⟩ := bind_s h
    have hc_2 := bits_Word_L z_1 z_2 r_2 hr_2
    refine RunAt.cut (some 15) (.callf 69) [] none [.d (.int .u8 z_1), .d (.int .u8 z_2)] (.d (.int .u16 r_2)) [] (by kernel_rfl) (by kernel_rfl) (by kernel_rfl) (cut_call (call_of (ws := []) (us := []) (by kernel_rfl) (by kernel_rfl) hc_2 (by kernel_rfl) (by kernel_rfl))) ?_
    refine RunAt.chunk 1 [⟨.d (.int .u16 r_2), []⟩] (by kernel_rfl) ?_
    refine RunAt.done (by kernel_rfl) ?_
    refine kS_nrm ?_
    refine Runs.ret ?_
    refine kS_ret ?_
    obtain rfl := Option.some.inj h
    exact ⟨Out.ret_ne, (by kernel_rfl)⟩
  | false =>
    replace h := ite_f hb_1 h
    refine Runs.cond_f (by kernel_rfl) ?_
    refine Runs.skip ?_
    refine kS_nrm ?_
    refine Runs.seq ?_
    refine Runs.ops ?_
    refine RunAt.chunk 1 [⟨.d (.int .u16 0), []⟩] (by kernel_rfl) ?_
    refine RunAt.done (by kernel_rfl) ?_
    refine kS_nrm ?_
    refine Runs.ret ?_
    obtain rfl := Option.some.inj h
    exact ⟨Out.ret_ne, (by kernel_rfl)⟩
theorem index_Source_Word_L (s_ : Source) (r : (Int × Source)) (h : index_Source_Word s_ = some r) : L 30 [.ptr [.d (.sl (List.map (D.int .u8) s_.b)), .d (.int .i64 s_.e)]] = some (.d (.int .u16 r.1), [.ptr [.d (.sl (List.map (D.int .u8) r.2.b)), .d (.int .i64 r.2.e)]]) := by
  obtain ⟨p, ⟨hne, hf⟩, hr⟩ := index_Source_Word_ok s_ r h
  obtain ⟨k, hk⟩ := run_of (F := F30) (args := [.ptr [.d (.sl (List.map (D.int .u8) s_.b)), .d (.int .i64 s_.e)]]) (ap := [.ptr [0] 0 0]) (bx0 := updW (fun _ => none) [([0], some (.cells [.d (.sl (List.map (D.int .u8) s_.b)), .d (.int .i64 s_.e)] 0))]) rfl rfl (by kernel_rfl) ⟨p, ⟨hne, hf⟩, hr⟩
  exact lim_run (k := k) rfl hk
def index_Source_Left_Q (s_ : Source) (r : Int) (p : Out × St) : Prop := (∀ i, p.1 ≠ .exit i) ∧ finF F29 [.ptr [0] 0 0] p.2 = some (.d (.int .i64 r), [.ptr [.d (.sl (List.map (D.int .u8) s_.b)), .d (.int .i64 s_.e)]])
theorem index_Source_Left_ok (s_ : Source) (r : Int) (h : index_Source_Left s_ = some r) : Runs L F29.body ⟨tmOf [.ptr [0] 0 0] 0, updW (fun _ => none) [([0], some (.cells [.d (.sl (List.map (D.int .u8) s_.b)), .d (.int .i64 s_.e)] 0))]⟩ (index_Source_Left_Q s_ r) := by
  unfold index_Source_Left at h
  refine Runs.seq ?_
  refine Runs.ops ?_
  refine RunAt.chunk 1 [⟨.d (.int .i64 0), []⟩] (by kernel_rfl) ?_
  refine RunAt.done (by kernel_rfl) ?_
  refine kS_nrm ?_
  refine Runs.seq ?_
  refine Runs.seq ?_
  refine Runs.ops ?_
  refine RunAt.chunk 2 [⟨.ptr [0] 0 0, []⟩, ⟨.d (.bool false), []⟩] (by kernel_rfl) ?_
  refine RunAt.done (by kernel_rfl) ?_
  refine kS_nrm ?_
  refine Runs.cond_f (by kernel_rfl) ?_
  refine Runs.skip ?_
  refine kS_nrm ?_
  refine Runs.seq ?_
  refine Runs.ops ?_
  refine RunAt.chunk 4 [⟨.ptr [0] 0 0, []⟩, ⟨.ptr [0] 0 0, []⟩, ⟨.ptr [0] 0 0, []⟩, ⟨.d (.sl (List.map (D.int .u8) s_.b)), []⟩] (by kernel_rfl) ?_
  refine RunAt.cut (some 9) .lenL [] none [.d (.sl (List.map (D.int .u8) s_.b))] (.d (.int .i64 (s_.b.length : Int))) [] (by kernel_rfl) (by kernel_rfl) (by kernel_rfl) (cut_len _) ?_
  refine RunAt.chunk 1 [⟨.d (.int .i64 (s_.b.length : Int)), []⟩] (by kernel_rfl) ?_
  refine RunAt.done (by kernel_rfl) ?_
  refine kS_nrm ?_
  refine Runs.ret ?_
  obtain rfl := Option.some.inj h
  exact ⟨Out.ret_ne, (by kernel_rfl)⟩
theorem index_Source_Left_L (s_ : Source) (r : Int) (h : index_Source_Left s_ = some r) : L 29 [.ptr [.d (.sl (List.map (D.int .u8) s_.b)), .d (.int .i64 s_.e)]] = some (.d (.int .i64 r), [.ptr [.d (.sl (List.map (D.int .u8) s_.b)), .d (.int .i64 s_.e)]]) := by
  obtain ⟨p, ⟨hne, hf⟩, hr⟩ := index_Source_Left_ok s_ r h
  obtain ⟨k, hk⟩ := run_of (F := F29) (args := [.ptr [.d (.sl (List.map (D.int .u8) s_.b)), .d (.int .i64 s_.e)]]) (ap := [.ptr [0] 0 0]) (bx0 := updW (fun _ => none) [([0], some (.cells [.d (.sl (List.map (D.int .u8) s_.b)), .d (.int .i64 s_.e)] 0))]) rfl rfl (by kernel_rfl) ⟨p, ⟨hne, hf⟩, hr⟩
  exact lim_run (k := k) rfl hk
def slices_Clone_Lbyte_Q (s_ : List Int) (r : (List Int)) (p : Out × St) : Prop := (∀ i, p.1 ≠ .exit i) ∧ finF F70 [.d (.sl (List.map (D.int .u8) s_))] p.2 = some (.arr false 1 (List.map (D.int .u8) r), [.d (.sl (List.map (D.int .u8) s_))])
theorem slices_Clone_Lbyte_ok_cons (x_ : Int) (r_ : List Int) (r : (List Int)) (h : ((grow 1 ([] : List Int) (x_ :: r_)).bind fun z_1 => some z_1) = some r) : Runs L F70.body ⟨tmOf [.d (.sl (List.map (D.int .u8) (x_ :: r_)))] 0, fun _ => none⟩ (slices_Clone_Lbyte_Q (x_ :: r_) r) := by
  refine Runs.seq ?_
  refine Runs.ops ?_
  refine RunAt.chunk 1 [⟨.nils, []⟩] (by kernel_rfl) ?_
  refine RunAt.done (by kernel_rfl) ?_
  refine kS_nrm ?_
  refine Runs.seq ?_
  refine Runs.seq ?_
  refine Runs.ops ?_
  refine RunAt.chunk 2 [⟨.d (.sl (List.map (D.int .u8) (x_ :: r_))), []⟩, ⟨.d (.bool false), []⟩] (by kernel_rfl) ?_
  refine RunAt.done (by kernel_rfl) ?_
  refine kS_nrm ?_
  refine Runs.cond_f (by kernel_rfl) ?_
  refine Runs.skip ?_
  refine kS_nrm ?_
  refine Runs.seq ?_
  refine Runs.ops ?_
  refine RunAt.chunk 2 [⟨.ref [5] 0 0 (List.map (D.int .u8) ([] : List Int)).length 1, [([5], some (.arr (List.map (D.int .u8) ([] : List Int)) 0 false))]⟩, ⟨.d (.sl (List.map (D.int .u8) (x_ :: r_))), []⟩] (by kernel_rfl) ?_
  obtain ⟨z_1, hz_1, h⟩ := bind_s h
  refine RunAt.cut (some 7) (.append 1 1 false) [] none [.ref [5] 0 0 (List.map (D.int .u8) ([] : List Int)).length 1, .d (.sl (List.map (D.int .u8) (x_ :: r_)))] (.ref [5] 1 0 (List.map (D.int .u8) z_1).length 1) [([5], some (.arr (List.map (D.int .u8) z_1) 1 false))] (by kernel_rfl) (by kernel_rfl) (by kernel_rfl) (cut_appR (e := (D.int .u8)) (l := ([] : List Int)) (fz := false) (ws := []) (ap_data _) (fun _ => rfl) hz_1 (by kernel_rfl) (by kernel_rfl) rfl) ?_
  refine RunAt.chunk 1 [⟨.ref [5] 1 0 (List.map (D.int .u8) z_1).length 1, []⟩] (by kernel_rfl) ?_
  refine RunAt.done (by kernel_rfl) ?_
  refine kS_nrm ?_
  refine Runs.ret ?_
  obtain rfl := Option.some.inj h
  exact ⟨Out.ret_ne, (fin_of (rs := [.ref [5] 1 0 (List.map (D.int .u8) z_1).length 1]) (by kernel_rfl) (by kernel_rfl) (outs_own (id := [5]) (v := 1) (fz := false) (es := List.map (D.int .u8) z_1) (by kernel_rfl) (by decide) rfl outs_nil) (gives_cons (give_same (by kernel_rfl)) gives_nil))⟩
theorem slices_Clone_Lbyte_ok_nil  (r : (List Int)) (h : (some ([] : List Int)) = some r) : Runs L F70.body ⟨tmOf [.nils] 0, fun _ => none⟩ (slices_Clone_Lbyte_Q ([] : List Int) r) := by
  refine Runs.seq ?_
  refine Runs.ops ?_
  refine RunAt.chunk 1 [⟨.nils, []⟩] (by kernel_rfl) ?_
  refine RunAt.done (by kernel_rfl) ?_
  refine kS_nrm ?_
  refine Runs.seq ?_
  refine Runs.seq ?_
  refine Runs.ops ?_
  refine RunAt.chunk 2 [⟨.nils, []⟩, ⟨.d (.bool true), []⟩] (by kernel_rfl) ?_
  refine RunAt.done (by kernel_rfl) ?_
  refine kS_nrm ?_
  refine Runs.cond_t (by kernel_rfl) ?_
  refine Runs.seq ?_
  refine Runs.ops ?_
  refine RunAt.chunk 1 [⟨.nils, []⟩] (by kernel_rfl) ?_
  refine RunAt.done (by kernel_rfl) ?_
  refine kS_nrm ?_
  refine Runs.seq ?_
  refine Runs.gcons (own_nil (D.int .u8) (v := 0) (by kernel_rfl) (by kernel_rfl)) ?_
  refine Runs.gnil ?_
  refine kS_nrm ?_
  refine Runs.ret ?_
  refine kS_ret ?_
  obtain rfl := Option.some.inj h
  exact ⟨Out.ret_ne, (fin_of (rs := [.ref [2] 0 0 (List.map (D.int .u8) ([] : List Int)).length 1]) (by kernel_rfl) (by kernel_rfl) (outs_own (id := [2]) (v := 0) (fz := false) (es := List.map (D.int .u8) ([] : List Int)) (by kernel_rfl) (by decide) rfl outs_nil) (gives_cons (give_same (by kernel_rfl)) gives_nil))⟩
theorem slices_Clone_Lbyte_ok_empt  (r : (List Int)) (h : ((grow 1 ([] : List Int) ([] : List Int)).bind fun z_1 => some z_1) = some r) : Runs L F70.body ⟨tmOf [.empt] 0, fun _ => none⟩ (slices_Clone_Lbyte_Q ([] : List Int) r) := by
  refine Runs.seq ?_
  refine Runs.ops ?_
  refine RunAt.chunk 1 [⟨.nils, []⟩] (by kernel_rfl) ?_
  refine RunAt.done (by kernel_rfl) ?_
  refine kS_nrm ?_
  refine Runs.seq ?_
  refine Runs.seq ?_
  refine Runs.ops ?_
  refine RunAt.chunk 2 [⟨.empt, []⟩, ⟨.d (.bool false), []⟩] (by kernel_rfl) ?_
  refine RunAt.done (by kernel_rfl) ?_
  refine kS_nrm ?_
  refine Runs.cond_f (by kernel_rfl) ?_
  refine Runs.skip ?_
  refine kS_nrm ?_
  refine Runs.seq ?_
  refine Runs.ops ?_
  refine RunAt.chunk 2 [⟨.ref [5] 0 0 (List.map (D.int .u8) ([] : List Int)).length 1, [([5], some (.arr (List.map (D.int .u8) ([] : List Int)) 0 false))]⟩, ⟨.empt, []⟩] (by kernel_rfl) ?_
  obtain ⟨z_1, hz_1, h⟩ := bind_s h
  refine RunAt.cut (some 7) (.append 1 1 false) [] none [.ref [5] 0 0 (List.map (D.int .u8) ([] : List Int)).length 1, .empt] (.ref [5] 1 0 (List.map (D.int .u8) z_1).length 1) [([5], some (.arr (List.map (D.int .u8) z_1) 1 false))] (by kernel_rfl) (by kernel_rfl) (by kernel_rfl) (cut_appR (e := (D.int .u8)) (l := ([] : List Int)) (fz := false) (ws := []) (ap_empt) (fun _ => rfl) hz_1 (by kernel_rfl) (by kernel_rfl) rfl) ?_
  refine RunAt.chunk 1 [⟨.ref [5] 1 0 (List.map (D.int .u8) z_1).length 1, []⟩] (by kernel_rfl) ?_
  refine RunAt.done (by kernel_rfl) ?_
  refine kS_nrm ?_
  refine Runs.ret ?_
  obtain rfl := Option.some.inj h
  exact ⟨Out.ret_ne, (fin_of (rs := [.ref [5] 1 0 (List.map (D.int .u8) z_1).length 1]) (by kernel_rfl) (by kernel_rfl) (outs_own (id := [5]) (v := 1) (fz := false) (es := List.map (D.int .u8) z_1) (by kernel_rfl) (by decide) rfl outs_nil) (gives_cons (give_same (by kernel_rfl)) gives_nil))⟩
theorem slices_Clone_Lbyte_L (s_ : List Int) (r : (List Int)) (h : slices_Clone_Lbyte s_ = some r) : L 70 [.d (.sl (List.map (D.int .u8) s_))] = some (.arr false 1 (List.map (D.int .u8) r), [.d (.sl (List.map (D.int .u8) s_))]) := by
  unfold slices_Clone_Lbyte at h
  cases s_ with
  | cons x_ r_ =>
    obtain ⟨p, ⟨hne, hf⟩, hr⟩ := slices_Clone_Lbyte_ok_cons x_ r_ r (by rw [h]; rfl)
    obtain ⟨k, hk⟩ := run_of_cons (F := F70) (x := (D.int .u8) x_) (xs := List.map (D.int .u8) r_) (ap := [.d (.sl (List.map (D.int .u8) (x_ :: r_)))]) (bx0 := fun _ => none) rfl (by kernel_rfl) ⟨p, ⟨hne, hf⟩, hr⟩
    exact lim_run (k := k) rfl hk
  | nil =>
    obtain rfl : r = [] := by unfold grow at h; split at h <;> first | (cases h; rfl) | cases h
    obtain ⟨p, ⟨hne, hf⟩, hr⟩ := slices_Clone_Lbyte_ok_nil [] (by rfl)
    obtain ⟨q, ⟨hne', hf'⟩, hr'⟩ := slices_Clone_Lbyte_ok_empt [] (by rw [h]; rfl)
    obtain ⟨k, hk⟩ := run_of_empty (F := F70) (n := 1) rfl rfl ⟨p, ⟨hne, hf⟩, hr⟩ ⟨q, ⟨hne', hf'⟩, hr'⟩
    exact lim_run (k := k) rfl hk
def index_Source_End_Q (s_ : Source) (r : (Int × Source)) (p : Out × St) : Prop := (∀ i, p.1 ≠ .exit i) ∧ finF F34 [.ptr [0] 0 0] p.2 = some (.d (.int .i64 r.1), [.ptr [.d (.sl (List.map (D.int .u8) r.2.b)), .d (.int .i64 r.2.e)]])
theorem index_Source_End_ok (s_ : Source) (r : (Int × Source)) (h : index_Source_End s_ = some r) : Runs L F34.body ⟨tmOf [.ptr [0] 0 0] 0, updW (fun _ => none) [([0], some (.cells [.d (.sl (List.map (D.int .u8) s_.b)), .d (.int .i64 s_.e)] 0))]⟩ (index_Source_End_Q s_ r) := by
  unfold index_Source_End at h
  refine Runs.seq ?_
  refine Runs.ops ?_
  refine RunAt.chunk 1 [⟨.d (.int .i64 0), []⟩] (by kernel_rfl) ?_
  refine RunAt.done (by kernel_rfl) ?_
  refine kS_nrm ?_
  refine Runs.seq ?_
  refine Runs.seq ?_
  refine Runs.ops ?_
  refine RunAt.chunk 1 [⟨.ptr [0] 0 0, []⟩] (by kernel_rfl) ?_
  obtain ⟨r_1, hr_1, h⟩ := bind_s h
  have hc_1 := index_Source_Left_L s_ r_1 hr_1
  refine RunAt.cut (some 4) (.callf 29) [] none [.ptr [0] 0 0] (.d (.int .i64 r_1)) [([0], some (.cells [.d (.sl (List.map (D.int .u8) s_.b)), .d (.int .i64 s_.e)] 0))] (by kernel_rfl) (by kernel_rfl) (by kernel_rfl) (cut_call (call_of (ws := []) (us := [([0], some (.cells [.d (.sl (List.map (D.int .u8) s_.b)), .d (.int .i64 s_.e)] 0))]) (by kernel_rfl) (by kernel_rfl) hc_1 (by kernel_rfl) (by kernel_rfl))) ?_
  refine RunAt.chunk 1 [⟨.d (.bool (decide (r_1 > 0))), []⟩] (by kernel_rfl) ?_
  refine RunAt.done (by kernel_rfl) ?_
  refine kS_nrm ?_
  cases hb_1 : ((decide (r_1 > 0)) : Bool) with
  | true =>
    replace h := ite_t hb_1 h
    refine Runs.cond_t (by kernel_rfl) ?_
    refine Runs.ops ?_
    refine RunAt.chunk 1 [⟨.ptr [0] 0 0, []⟩] (by kernel_rfl) ?_
    obtain ⟨r_2, hr_2, h⟩ := bind_s h
    have hc_2 := index_Source_Wrong_L s_ 3 r_2 hr_2
    refine RunAt.cut (some 7) (.callf 27) [] none [.ptr [0] 0 0, .d (.int .i64 3)] (.tup []) [([0], some (.cells [.d (.sl (List.map (D.int .u8) r_2.b)), .d (.int .i64 r_2.e)] 0))] (by kernel_rfl) (by kernel_rfl) (by kernel_rfl) (cut_call (call_of (ws := []) (us := [([0], some (.cells [.d (.sl (List.map (D.int .u8) r_2.b)), .d (.int .i64 r_2.e)] 0))]) (by kernel_rfl) (by kernel_rfl) hc_2 (by kernel_rfl) (by kernel_rfl))) ?_
    refine RunAt.done (by kernel_rfl) ?_
    refine kS_nrm ?_
    refine Runs.seq ?_
    refine Runs.ops ?_
    refine RunAt.chunk 1 [⟨.ptr [0] 0 0, []⟩] (by kernel_rfl) ?_
    obtain ⟨r_3, hr_3, h⟩ := bind_s h
    have hc_3 := index_Source_Err_L r_2 r_3 hr_3
    refine RunAt.cut (some 9) (.callf 28) [] none [.ptr [0] 0 0] (.d (.int .i64 r_3)) [([0], some (.cells [.d (.sl (List.map (D.int .u8) r_2.b)), .d (.int .i64 r_2.e)] 0))] (by kernel_rfl) (by kernel_rfl) (by kernel_rfl) (cut_call (call_of (ws := []) (us := [([0], some (.cells [.d (.sl (List.map (D.int .u8) r_2.b)), .d (.int .i64 r_2.e)] 0))]) (by kernel_rfl) (by kernel_rfl) hc_3 (by kernel_rfl) (by kernel_rfl))) ?_
    refine RunAt.chunk 1 [⟨.d (.int .i64 r_3), []⟩] (by kernel_rfl) ?_
    refine RunAt.done (by kernel_rfl) ?_
    refine kS_nrm ?_
    refine Runs.ret ?_
    obtain rfl := Option.some.inj h
    exact ⟨Out.ret_ne, (by kernel_rfl)⟩
  | false =>
    replace h := ite_f hb_1 h
    refine Runs.cond_f (by kernel_rfl) ?_
    refine Runs.skip ?_
    refine kS_nrm ?_
    refine Runs.seq ?_
    refine Runs.ops ?_
    refine RunAt.chunk 1 [⟨.ptr [0] 0 0, []⟩] (by kernel_rfl) ?_
    obtain ⟨r_4, hr_4, h⟩ := bind_s h
    have hc_4 := index_Source_Err_L s_ r_4 hr_4
    refine RunAt.cut (some 9) (.callf 28) [] none [.ptr [0] 0 0] (.d (.int .i64 r_4)) [([0], some (.cells [.d (.sl (List.map (D.int .u8) s_.b)), .d (.int .i64 s_.e)] 0))] (by kernel_rfl) (by kernel_rfl) (by kernel_rfl) (cut_call (call_of (ws := []) (us := [([0], some (.cells [.d (.sl (List.map (D.int .u8) s_.b)), .d (.int .i64 s_.e)] 0))]) (by kernel_rfl) (by kernel_rfl) hc_4 (by kernel_rfl) (by kernel_rfl))) ?_
    refine RunAt.chunk 1 [⟨.d (.int .i64 r_4), []⟩] (by kernel_rfl) ?_
    refine RunAt.done (by kernel_rfl) ?_
    refine kS_nrm ?_
    refine Runs.ret ?_
    obtain rfl := Option.some.inj h
    exact ⟨Out.ret_ne, (by kernel_rfl)⟩
theorem index_Source_End_L (s_ : Source) (r : (Int × Source)) (h : index_Source_End s_ = some r) : L 34 [.ptr [.d (.sl (List.map (D.int .u8) s_.b)), .d (.int .i64 s_.e)]] = some (.d (.int .i64 r.1), [.ptr [.d (.sl (List.map (D.int .u8) r.2.b)), .d (.int .i64 r.2.e)]]) := by
  obtain ⟨p, ⟨hne, hf⟩, hr⟩ := index_Source_End_ok s_ r h
  obtain ⟨k, hk⟩ := run_of (F := F34) (args := [.ptr [.d (.sl (List.map (D.int .u8) s_.b)), .d (.int .i64 s_.e)]]) (ap := [.ptr [0] 0 0]) (bx0 := updW (fun _ => none) [([0], some (.cells [.d (.sl (List.map (D.int .u8) s_.b)), .d (.int .i64 s_.e)] 0))]) rfl rfl (by kernel_rfl) ⟨p, ⟨hne, hf⟩, hr⟩
  exact lim_run (k := k) rfl hk
def data_Get_Q (b_ : (List Int)) (r : (Data × Int)) (p : Out × St) : Prop := (∀ i, p.1 ≠ .exit i) ∧ finF F44 [.d (.sl (List.map (D.int .u8) b_))] p.2 = some (.tup [.d (Data.d r.1), .d (.int .i64 r.2)], [.d (.sl (List.map (D.int .u8) b_))])
theorem data_Get_ok (b_ : (List Int)) (r : (Data × Int)) (h : data_Get b_ = some r) : Runs L F44.body ⟨tmOf [.d (.sl (List.map (D.int .u8) b_))] 0, updW (fun _ => none) []⟩ (data_Get_Q b_ r) := by
  unfold data_Get at h
  refine Runs.seq ?_
  refine Runs.ops ?_
  refine RunAt.chunk 2 [⟨.ptr [2] 0 0, [([2], some (.cells [.d (.int .i64 0), .d (.int .u16 0), .nils, .nils] 0))]⟩, ⟨.d (.int .i64 0), []⟩] (by kernel_rfl) ?_
  refine RunAt.done (by kernel_rfl) ?_
  refine kS_nrm ?_
  refine Runs.seq ?_
  refine Runs.ops ?_
  refine RunAt.chunk 1 [⟨.d (.sl (List.map (D.int .u8) b_)), []⟩] (by kernel_rfl) ?_
  obtain ⟨r_1, hr_1, h⟩ := bind_s h
  have hc_1 := index_From_L b_ r_1 hr_1
  refine RunAt.cut (some 8) (.callf 25) [] none [.d (.sl (List.map (D.int .u8) b_))] (.ptr [8] 0 0) [([8], some (.cells [.d (.sl (List.map (D.int .u8) r_1.b)), .d (.int .i64 r_1.e)] 0))] (by kernel_rfl) (by kernel_rfl) (by kernel_rfl) (cut_call (call_of (ws := []) (us := []) (by kernel_rfl) (by kernel_rfl) hc_1 (by kernel_rfl) (by kernel_rfl))) ?_
  refine RunAt.chunk 1 [⟨.ptr [8] 0 0, []⟩] (by kernel_rfl) ?_
  refine RunAt.done (by kernel_rfl) ?_
  refine kS_nrm ?_
  refine Runs.seq ?_
  refine Runs.ops ?_
  refine RunAt.chunk 1 [⟨.ptr [8] 0 0, []⟩] (by kernel_rfl) ?_
  obtain ⟨r_2, hr_2, h⟩ := bind_s h
  have hc_2 := index_Source_Index_L r_1 r_2 hr_2
  refine RunAt.cut (some 10) (.callf 31) [] none [.ptr [8] 0 0] (.d (.int .i64 r_2.1)) [([8], some (.cells [.d (.sl (List.map (D.int .u8) r_2.2.b)), .d (.int .i64 r_2.2.e)] 0))] (by kernel_rfl) (by kernel_rfl) (by kernel_rfl) (cut_call (call_of (ws := []) (us := [([8], some (.cells [.d (.sl (List.map (D.int .u8) r_2.2.b)), .d (.int .i64 r_2.2.e)] 0))]) (by kernel_rfl) (by kernel_rfl) hc_2 (by kernel_rfl) (by kernel_rfl))) ?_
  refine RunAt.chunk 1 [⟨.ptr [8] 0 0, []⟩] (by kernel_rfl) ?_
  obtain ⟨r_3, hr_3, h⟩ := bind_s h
  have hc_3 := index_Source_Word_L r_2.2 r_3 hr_3
  refine RunAt.cut (some 12) (.callf 30) [] none [.ptr [8] 0 0] (.d (.int .u16 r_3.1)) [([8], some (.cells [.d (.sl (List.map (D.int .u8) r_3.2.b)), .d (.int .i64 r_3.2.e)] 0))] (by kernel_rfl) (by kernel_rfl) (by kernel_rfl) (cut_call (call_of (ws := []) (us := [([8], some (.cells [.d (.sl (List.map (D.int .u8) r_3.2.b)), .d (.int .i64 r_3.2.e)] 0))]) (by kernel_rfl) (by kernel_rfl) hc_3 (by kernel_rfl) (by kernel_rfl))) ?_
  refine RunAt.chunk 3 [⟨.mix [.d (.int .i64 r_2.1), .d (.int .u16 r_3.1), .nils, .nils], []⟩, ⟨.ptr [5] 0 0, [([5], some (.cells [.d (.int .i64 0), .d (.int .u16 0), .nils, .nils] 0))]⟩, ⟨.tup [], [([5], some (.cells [.d (.int .i64 r_2.1), .d (.int .u16 r_3.1), .nils, .nils] 0))]⟩] (by kernel_rfl) ?_
  refine RunAt.done (by kernel_rfl) ?_
  refine kS_nrm ?_
  refine Runs.seq ?_
  refine Runs.ops ?_
  refine RunAt.chunk 2 [⟨.ptr [8] 0 0, []⟩, ⟨.ptr [8] 0 0, []⟩] (by kernel_rfl) ?_
  obtain ⟨r_4, hr_4, h⟩ := bind_s h
  have hc_4 := index_Source_Left_L r_3.2 r_4 hr_4
  refine RunAt.cut (some 16) (.callf 29) [] none [.ptr [8] 0 0] (.d (.int .i64 r_4)) [([8], some (.cells [.d (.sl (List.map (D.int .u8) r_3.2.b)), .d (.int .i64 r_3.2.e)] 0))] (by kernel_rfl) (by kernel_rfl) (by kernel_rfl) (cut_call (call_of (ws := []) (us := [([8], some (.cells [.d (.sl (List.map (D.int .u8) r_3.2.b)), .d (.int .i64 r_3.2.e)] 0))]) (by kernel_rfl) (by kernel_rfl) hc_4 (by kernel_rfl) (by kernel_rfl))) ?_
  obtain ⟨r_5, hr_5, h⟩ := bind_s h
  have hc_5 := index_Source_Take_L r_3.2 r_4 r_5 hr_5
  refine RunAt.cut (some 17) (.callf 26) [] none [.ptr [8] 0 0, .d (.int .i64 r_4)] (.d (.sl (List.map (D.int .u8) r_5.1))) [([8], some (.cells [.d (.sl (List.map (D.int .u8) r_5.2.b)), .d (.int .i64 r_5.2.e)] 0))] (by kernel_rfl) (by kernel_rfl) (by kernel_rfl) (cut_call (call_of (ws := []) (us := [([8], some (.cells [.d (.sl (List.map (D.int .u8) r_5.2.b)), .d (.int .i64 r_5.2.e)] 0))]) (by kernel_rfl) (by kernel_rfl) hc_5 (by kernel_rfl) (by kernel_rfl))) ?_
  obtain ⟨r_6, hr_6, h⟩ := bind_s h
  have hc_6 := slices_Clone_Lbyte_L r_5.1 r_6 hr_6
  refine RunAt.cut (some 18) (.callf 70) [] none [.d (.sl (List.map (D.int .u8) r_5.1))] (.ref [18] 0 0 (List.map (D.int .u8) r_6).length 1) [([18], some (.arr (List.map (D.int .u8) r_6) 0 false))] (by kernel_rfl) (by kernel_rfl) (by kernel_rfl) (cut_call (call_of (ws := []) (us := []) (by kernel_rfl) (gives_cons (ws := []) (give_same (by kernel_rfl)) gives_nil) hc_6 (by kernel_rfl) (by kernel_rfl))) ?_
  refine RunAt.chunk 2 [⟨.ptr [5] 0 2, []⟩, ⟨.tup [], [([5], some (.cells [.d (.int .i64 r_2.1), .d (.int .u16 r_3.1), .ref [18] 0 0 (List.map (D.int .u8) r_6).length 1, .nils] 0))]⟩] (by kernel_rfl) ?_
  refine RunAt.done (by kernel_rfl) ?_
  refine kS_nrm ?_
  refine Runs.seq ?_
  refine Runs.seq ?_
  refine Runs.ops ?_
  refine RunAt.chunk 1 [⟨.ptr [8] 0 0, []⟩] (by kernel_rfl) ?_
  obtain ⟨r_7, hr_7, h⟩ := bind_s h
  have hc_7 := index_Source_Err_L r_5.2 r_7 hr_7
  refine RunAt.cut (some 21) (.callf 28) [] none [.ptr [8] 0 0] (.d (.int .i64 r_7)) [([8], some (.cells [.d (.sl (List.map (D.int .u8) r_5.2.b)), .d (.int .i64 r_5.2.e)] 0))] (by kernel_rfl) (by kernel_rfl) (by kernel_rfl) (cut_call (call_of (ws := []) (us := [([8], some (.cells [.d (.sl (List.map (D.int .u8) r_5.2.b)), .d (.int .i64 r_5.2.e)] 0))]) (by kernel_rfl) (by kernel_rfl) hc_7 (by kernel_rfl) (by kernel_rfl))) ?_
  refine RunAt.chunk 2 [⟨.d (.bool (r_7 == 0)), []⟩, ⟨.d (.bool (r_7 == 0)), []⟩] (by kernel_rfl) ?_
  cases hb_1 : ((r_7 == 0) : Bool) with
  | true =>
    replace h := ite_t hb_1 h
    refine RunAt.chunk 1 [⟨.mix [.d (.int .i64 r_2.1), .d (.int .u16 r_3.1), .ref [18] 0 0 (List.map (D.int .u8) r_6).length 1, .nils], []⟩] (by kernel_rfl) ?_
    obtain ⟨r_8, hr_8, h⟩ := bind_s h
    have hc_8 := data_May_L ({ Seg := r_2.1, Off := r_3.1, Bytes := r_6, Fixups := ([] : List Fixup) } : Data) r_8 hr_8
    refine RunAt.cut (some 25) (.callf 43) [] none [.mix [.d (.int .i64 r_2.1), .d (.int .u16 r_3.1), .ref [18] 0 0 (List.map (D.int .u8) r_6).length 1, .nils]] (.d (.bool r_8)) [([18], some (.arr (List.map (D.int .u8) r_6) 0 true))] (by kernel_rfl) (by kernel_rfl) (by kernel_rfl) (cut_call (call_of (ws := [([18], some (.arr (List.map (D.int .u8) r_6) 0 true))]) (us := [([18], some (.arr (List.map (D.int .u8) r_6) 0 true))]) (by kernel_rfl) (gives_cons (ws := [([18], some (.arr (List.map (D.int .u8) r_6) 0 true))]) (give_mix (snaps_d (snaps_d (snaps_r (e := (D.int .u8)) (l := r_6) (fz := false) (by kernel_rfl) (by kernel_rfl) (hl := rfl) (snaps_n Fixup.d snaps_nil))))) gives_nil) hc_8 (by kernel_rfl) (by kernel_rfl))) ?_
    refine RunAt.chunk 2 [⟨.d (.bool (!r_8)), []⟩, ⟨.d (.bool (!r_8)), []⟩] (by kernel_rfl) ?_
    refine RunAt.done (by kernel_rfl) ?_
    refine kS_nrm ?_
    cases hb_2 : ((!r_8) : Bool) with
    | true =>
      replace h := ite_t hb_2 h
      refine Runs.cond_t (by kernel_rfl) ?_
      refine Runs.ops ?_
      refine RunAt.chunk 1 [⟨.ptr [8] 0 0, []⟩] (by kernel_rfl) ?_
      obtain ⟨r_9, hr_9, h⟩ := bind_s h
      have hc_9 := index_Source_Wrong_L r_5.2 3 r_9 hr_9
      refine RunAt.cut (some 29) (.callf 27) [] none [.ptr [8] 0 0, .d (.int .i64 3)] (.tup []) [([8], some (.cells [.d (.sl (List.map (D.int .u8) r_9.b)), .d (.int .i64 r_9.e)] 0))] (by kernel_rfl) (by kernel_rfl) (by kernel_rfl) (cut_call (call_of (ws := []) (us := [([8], some (.cells [.d (.sl (List.map (D.int .u8) r_9.b)), .d (.int .i64 r_9.e)] 0))]) (by kernel_rfl) (by kernel_rfl) hc_9 (by kernel_rfl) (by kernel_rfl))) ?_
      refine RunAt.done (by kernel_rfl) ?_
      refine kS_nrm ?_
      refine Runs.seq ?_
      refine Runs.seq ?_
      refine Runs.ops ?_
      refine RunAt.chunk 1 [⟨.ptr [8] 0 0, []⟩] (by kernel_rfl) ?_
      obtain ⟨r_10, hr_10, h⟩ := bind_s h
      have hc_10 := index_Source_End_L r_9 r_10 hr_10
      refine RunAt.cut (some 31) (.callf 34) [] none [.ptr [8] 0 0] (.d (.int .i64 r_10.1)) [([8], some (.cells [.d (.sl (List.map (D.int .u8) r_10.2.b)), .d (.int .i64 r_10.2.e)] 0))] (by kernel_rfl) (by kernel_rfl) (by kernel_rfl) (cut_call (call_of (ws := []) (us := [([8], some (.cells [.d (.sl (List.map (D.int .u8) r_10.2.b)), .d (.int .i64 r_10.2.e)] 0))]) (by kernel_rfl) (by kernel_rfl) hc_10 (by kernel_rfl) (by kernel_rfl))) ?_
      refine RunAt.chunk 1 [⟨.d (.int .i64 r_10.1), []⟩] (by kernel_rfl) ?_
      refine RunAt.done (by kernel_rfl) ?_
      refine kS_nrm ?_
      refine Runs.seq ?_
      refine Runs.ops ?_
      refine RunAt.chunk 2 [⟨.d (.int .i64 r_10.1), []⟩, ⟨.d (.bool (r_10.1 != 0)), []⟩] (by kernel_rfl) ?_
      refine RunAt.done (by kernel_rfl) ?_
      refine kS_nrm ?_
      cases hb_3 : ((r_10.1 != 0) : Bool) with
      | true =>
        replace h := ite_t hb_3 h
        refine Runs.cond_t (by kernel_rfl) ?_
        refine Runs.seq ?_
        refine Runs.ops ?_
        refine RunAt.chunk 4 [⟨.mix [.d (.int .i64 0), .d (.int .u16 0), .nils, .nils], []⟩, ⟨.d (.int .i64 r_10.1), []⟩, ⟨.tup [], [([2], some (.cells [.d (.int .i64 0), .d (.int .u16 0), .nils, .nils] 0))]⟩, ⟨.d (.int .i64 r_10.1), []⟩] (by kernel_rfl) ?_
        refine RunAt.done (by kernel_rfl) ?_
        refine kS_nrm ?_
        refine Runs.seq ?_
        refine Runs.gcons (frzB_nil (ver := 0) (cs := [.d (.int .i64 0), .d (.int .u16 0), .nils, .nils]) (cs' := [.d (.int .i64 0), .d (.int .u16 0), .d (.sl (List.map (D.int .u8) ([] : List Int))), .nils]) (D.int .u8) (by kernel_rfl) (by kernel_rfl) (by kernel_rfl)) ?_
        refine Runs.gcons (frzB_nil (ver := 0) (cs := [.d (.int .i64 0), .d (.int .u16 0), .d (.sl (List.map (D.int .u8) ([] : List Int))), .nils]) (cs' := [.d (.int .i64 0), .d (.int .u16 0), .d (.sl (List.map (D.int .u8) ([] : List Int))), .d (.sl (List.map Fixup.d ([] : List Fixup)))]) Fixup.d (by kernel_rfl) (by kernel_rfl) (by kernel_rfl)) ?_
        refine Runs.gnil ?_
        refine kS_nrm ?_
        refine Runs.ret ?_
        refine kS_ret ?_
        obtain rfl := Option.some.inj h
        exact ⟨Out.ret_ne, (by kernel_rfl)⟩
      | false =>
        replace h := ite_f hb_3 h
        refine Runs.cond_f (by kernel_rfl) ?_
        refine Runs.skip ?_
        refine kS_nrm ?_
        refine Runs.seq ?_
        refine Runs.ops ?_
        refine RunAt.chunk 3 [⟨.mix [.d (.int .i64 r_2.1), .d (.int .u16 r_3.1), .ref [18] 0 0 (List.map (D.int .u8) r_6).length 1, .nils], []⟩, ⟨.tup [], [([2], some (.cells [.d (.int .i64 r_2.1), .d (.int .u16 r_3.1), .ref [18] 0 0 (List.map (D.int .u8) r_6).length 1, .nils] 0))]⟩, ⟨.d (.int .i64 0), []⟩] (by kernel_rfl) ?_
        refine RunAt.done (by kernel_rfl) ?_
        refine kS_nrm ?_
        refine Runs.seq ?_
        refine Runs.gcons (frzB_ref (e := (D.int .u8)) (l := r_6) (id := [2]) (id' := [18]) (v := 0) (n := 1) (fz := true) (ver := 0) (cs := [.d (.int .i64 r_2.1), .d (.int .u16 r_3.1), .ref [18] 0 0 (List.map (D.int .u8) r_6).length 1, .nils]) (cs' := [.d (.int .i64 r_2.1), .d (.int .u16 r_3.1), .d (.sl (List.map (D.int .u8) r_6)), .nils]) (by kernel_rfl) (by kernel_rfl) (by kernel_rfl) (by decide) (by kernel_rfl) rfl) ?_
        refine Runs.gcons (frzB_nil (ver := 0) (cs := [.d (.int .i64 r_2.1), .d (.int .u16 r_3.1), .d (.sl (List.map (D.int .u8) r_6)), .nils]) (cs' := [.d (.int .i64 r_2.1), .d (.int .u16 r_3.1), .d (.sl (List.map (D.int .u8) r_6)), .d (.sl (List.map Fixup.d ([] : List Fixup)))]) Fixup.d (by kernel_rfl) (by kernel_rfl) (by kernel_rfl)) ?_
        refine Runs.gnil ?_
        refine kS_nrm ?_
        refine Runs.ret ?_
        obtain rfl := Option.some.inj h
        exact ⟨Out.ret_ne, (by kernel_rfl)⟩
    | false =>
      replace h := ite_f hb_2 h
      refine Runs.cond_f (by kernel_rfl) ?_
      refine Runs.skip ?_
      refine kS_nrm ?_
      refine Runs.seq ?_
      refine Runs.seq ?_
      refine Runs.ops ?_
      refine RunAt.chunk 1 [⟨.ptr [8] 0 0, []⟩] (by kernel_rfl) ?_
      obtain ⟨r_11, hr_11, h⟩ := bind_s h
      have hc_11 := index_Source_End_L r_5.2 r_11 hr_11
      refine RunAt.cut (some 31) (.callf 34) [] none [.ptr [8] 0 0] (.d (.int .i64 r_11.1)) [([8], some (.cells [.d (.sl (List.map (D.int .u8) r_11.2.b)), .d (.int .i64 r_11.2.e)] 0))] (by kernel_rfl) (by kernel_rfl) (by kernel_rfl) (cut_call (call_of (ws := []) (us := [([8], some (.cells [.d (.sl (List.map (D.int .u8) r_11.2.b)), .d (.int .i64 r_11.2.e)] 0))]) (by kernel_rfl) (by kernel_rfl) hc_11 (by kernel_rfl) (by kernel_rfl))) ?_
      refine RunAt.chunk 1 [⟨.d (.int .i64 r_11.1), []⟩] (by kernel_rfl) ?_
      refine RunAt.done (by kernel_rfl) ?_
      refine kS_nrm ?_
      refine Runs.seq ?_
      refine Runs.ops ?_
      refine RunAt.chunk 2 [⟨.d (.int .i64 r_11.1), []⟩, ⟨.d (.bool (r_11.1 != 0)), []⟩] (by kernel_rfl) ?_
      refine RunAt.done (by kernel_rfl) ?_
      refine kS_nrm ?_
      cases hb_4 : ((r_11.1 != 0) : Bool) with
      | true =>
        replace h := ite_t hb_4 h
        refine Runs.cond_t (by kernel_rfl) ?_
        refine Runs.seq ?_
        refine Runs.ops ?_
        refine RunAt.chunk 4 [⟨.mix [.d (.int .i64 0), .d (.int .u16 0), .nils, .nils], []⟩, ⟨.d (.int .i64 r_11.1), []⟩, ⟨.tup [], [([2], some (.cells [.d (.int .i64 0), .d (.int .u16 0), .nils, .nils] 0))]⟩, ⟨.d (.int .i64 r_11.1), []⟩] (by kernel_rfl) ?_
        refine RunAt.done (by kernel_rfl) ?_
        refine kS_nrm ?_
        refine Runs.seq ?_
        refine Runs.gcons (frzB_nil (ver := 0) (cs := [.d (.int .i64 0), .d (.int .u16 0), .nils, .nils]) (cs' := [.d (.int .i64 0), .d (.int .u16 0), .d (.sl (List.map (D.int .u8) ([] : List Int))), .nils]) (D.int .u8) (by kernel_rfl) (by kernel_rfl) (by kernel_rfl)) ?_
        refine Runs.gcons (frzB_nil (ver := 0) (cs := [.d (.int .i64 0), .d (.int .u16 0), .d (.sl (List.map (D.int .u8) ([] : List Int))), .nils]) (cs' := [.d (.int .i64 0), .d (.int .u16 0), .d (.sl (List.map (D.int .u8) ([] : List Int))), .d (.sl (List.map Fixup.d ([] : List Fixup)))]) Fixup.d (by kernel_rfl) (by kernel_rfl) (by kernel_rfl)) ?_
        refine Runs.gnil ?_
        refine kS_nrm ?_
        refine Runs.ret ?_
        refine kS_ret ?_
        obtain rfl := Option.some.inj h
        exact ⟨Out.ret_ne, (by kernel_rfl)⟩
      | false =>
        replace h := ite_f hb_4 h
        refine Runs.cond_f (by kernel_rfl) ?_
        refine Runs.skip ?_
        refine kS_nrm ?_
        refine Runs.seq ?_
        refine Runs.ops ?_
        refine RunAt.chunk 3 [⟨.mix [.d (.int .i64 r_2.1), .d (.int .u16 r_3.1), .ref [18] 0 0 (List.map (D.int .u8) r_6).length 1, .nils], []⟩, ⟨.tup [], [([2], some (.cells [.d (.int .i64 r_2.1), .d (.int .u16 r_3.1), .ref [18] 0 0 (List.map (D.int .u8) r_6).length 1, .nils] 0))]⟩, ⟨.d (.int .i64 0), []⟩] (by kernel_rfl) ?_
        refine RunAt.done (by kernel_rfl) ?_
        refine kS_nrm ?_
        refine Runs.seq ?_
        refine Runs.gcons (frzB_ref (e := (D.int .u8)) (l := r_6) (id := [2]) (id' := [18]) (v := 0) (n := 1) (fz := true) (ver := 0) (cs := [.d (.int .i64 r_2.1), .d (.int .u16 r_3.1), .ref [18] 0 0 (List.map (D.int .u8) r_6).length 1, .nils]) (cs' := [.d (.int .i64 r_2.1), .d (.int .u16 r_3.1), .d (.sl (List.map (D.int .u8) r_6)), .nils]) (by kernel_rfl) (by kernel_rfl) (by kernel_rfl) (by decide) (by kernel_rfl) rfl) ?_
        refine Runs.gcons (frzB_nil (ver := 0) (cs := [.d (.int .i64 r_2.1), .d (.int .u16 r_3.1), .d (.sl (List.map (D.int .u8) r_6)), .nils]) (cs' := [.d (.int .i64 r_2.1), .d (.int .u16 r_3.1), .d (.sl (List.map (D.int .u8) r_6)), .d (.sl (List.map Fixup.d ([] : List Fixup)))]) Fixup.d (by kernel_rfl) (by kernel_rfl) (by kernel_rfl)) ?_
        refine Runs.gnil ?_
        refine kS_nrm ?_
        refine Runs.ret ?_
        obtain rfl := Option.some.inj h
        exact ⟨Out.ret_ne, (by kernel_rfl)⟩
  | false =>
    replace h := ite_f hb_1 h
    refine RunAt.chunk 4 [⟨.tup [], []⟩, ⟨.tup [], []⟩, ⟨.tup [], []⟩, ⟨.d (.bool false), []⟩] (by kernel_rfl) ?_
    refine RunAt.done (by kernel_rfl) ?_
    refine kS_nrm ?_
    refine Runs.cond_f (by kernel_rfl) ?_
    refine Runs.skip ?_
    refine kS_nrm ?_
    refine Runs.seq ?_
    refine Runs.seq ?_
    refine Runs.ops ?_
    refine RunAt.chunk 1 [⟨.ptr [8] 0 0, []⟩] (by kernel_rfl) ?_
    obtain ⟨r_12, hr_12, h⟩ := bind_s h
    have hc_12 := index_Source_End_L r_5.2 r_12 hr_12
    refine RunAt.cut (some 31) (.callf 34) [] none [.ptr [8] 0 0] (.d (.int .i64 r_12.1)) [([8], some (.cells [.d (.sl (List.map (D.int .u8) r_12.2.b)), .d (.int .i64 r_12.2.e)] 0))] (by kernel_rfl) (by kernel_rfl) (by kernel_rfl) (cut_call (call_of (ws := []) (us := [([8], some (.cells [.d (.sl (List.map (D.int .u8) r_12.2.b)), .d (.int .i64 r_12.2.e)] 0))]) (by kernel_rfl) (by kernel_rfl) hc_12 (by kernel_rfl) (by kernel_rfl))) ?_
    refine RunAt.chunk 1 [⟨.d (.int .i64 r_12.1), []⟩] (by kernel_rfl) ?_
    refine RunAt.done (by kernel_rfl) ?_
    refine kS_nrm ?_
    refine Runs.seq ?_
    refine Runs.ops ?_
    refine RunAt.chunk 2 [⟨.d (.int .i64 r_12.1), []⟩, ⟨.d (.bool (r_12.1 != 0)), []⟩] (by kernel_rfl) ?_
    refine RunAt.done (by kernel_rfl) ?_
    refine kS_nrm ?_
    cases hb_5 : ((r_12.1 != 0) : Bool) with
    | true =>
      replace h := ite_t hb_5 h
      refine Runs.cond_t (by kernel_rfl) ?_
      refine Runs.seq ?_
      refine Runs.ops ?_
      refine RunAt.chunk 4 [⟨.mix [.d (.int .i64 0), .d (.int .u16 0), .nils, .nils], []⟩, ⟨.d (.int .i64 r_12.1), []⟩, ⟨.tup [], [([2], some (.cells [.d (.int .i64 0), .d (.int .u16 0), .nils, .nils] 0))]⟩, ⟨.d (.int .i64 r_12.1), []⟩] (by kernel_rfl) ?_
      refine RunAt.done (by kernel_rfl) ?_
      refine kS_nrm ?_
      refine Runs.seq ?_
      refine Runs.gcons (frzB_nil (ver := 0) (cs := [.d (.int .i64 0), .d (.int .u16 0), .nils, .nils]) (cs' := [.d (.int .i64 0), .d (.int .u16 0), .d (.sl (List.map (D.int .u8) ([] : List Int))), .nils]) (D.int .u8) (by kernel_rfl) (by kernel_rfl) (by kernel_rfl)) ?_
      refine Runs.gcons (frzB_nil (ver := 0) (cs := [.d (.int .i64 0), .d (.int .u16 0), .d (.sl (List.map (D.int .u8) ([] : List Int))), .nils]) (cs' := [.d (.int .i64 0), .d (.int .u16 0), .d (.sl (List.map (D.int .u8) ([] : List Int))), .d (.sl (List.map Fixup.d ([] : List Fixup)))]) Fixup.d (by kernel_rfl) (by kernel_rfl) (by kernel_rfl)) ?_
      refine Runs.gnil ?_
      refine kS_nrm ?_
      refine Runs.ret ?_
      refine kS_ret ?_
      obtain rfl := Option.some.inj h
      exact ⟨Out.ret_ne, (by kernel_rfl)⟩
    | false =>
      replace h := ite_f hb_5 h
      refine Runs.cond_f (by kernel_rfl) ?_
      refine Runs.skip ?_
      refine kS_nrm ?_
      refine Runs.seq ?_
      refine Runs.ops ?_
      refine RunAt.chunk 3 [⟨.mix [.d (.int .i64 r_2.1), .d (.int .u16 r_3.1), .ref [18] 0 0 (List.map (D.int .u8) r_6).length 1, .nils], []⟩, ⟨.tup [], [([2], some (.cells [.d (.int .i64 r_2.1), .d (.int .u16 r_3.1), .ref [18] 0 0 (List.map (D.int .u8) r_6).length 1, .nils] 0))]⟩, ⟨.d (.int .i64 0), []⟩] (by kernel_rfl) ?_
      refine RunAt.done (by kernel_rfl) ?_
      refine kS_nrm ?_
      refine Runs.seq ?_
      refine Runs.gcons (frzB_ref (e := (D.int .u8)) (l := r_6) (id := [2]) (id' := [18]) (v := 0) (n := 1) (fz := false) (ver := 0) (cs := [.d (.int .i64 r_2.1), .d (.int .u16 r_3.1), .ref [18] 0 0 (List.map (D.int .u8) r_6).length 1, .nils]) (cs' := [.d (.int .i64 r_2.1), .d (.int .u16 r_3.1), .d (.sl (List.map (D.int .u8) r_6)), .nils]) (by kernel_rfl) (by kernel_rfl) (by kernel_rfl) (by decide) (by kernel_rfl) rfl) ?_
      refine Runs.gcons (frzB_nil (ver := 0) (cs := [.d (.int .i64 r_2.1), .d (.int .u16 r_3.1), .d (.sl (List.map (D.int .u8) r_6)), .nils]) (cs' := [.d (.int .i64 r_2.1), .d (.int .u16 r_3.1), .d (.sl (List.map (D.int .u8) r_6)), .d (.sl (List.map Fixup.d ([] : List Fixup)))]) Fixup.d (by kernel_rfl) (by kernel_rfl) (by kernel_rfl)) ?_
      refine Runs.gnil ?_
      refine kS_nrm ?_
      refine Runs.ret ?_
      obtain rfl := Option.some.inj h
      exact ⟨Out.ret_ne, (by kernel_rfl)⟩
theorem data_Get_L (b_ : (List Int)) (r : (Data × Int)) (h : data_Get b_ = some r) : L 44 [.d (.sl (List.map (D.int .u8) b_))] = some (.tup [.d (Data.d r.1), .d (.int .i64 r.2)], [.d (.sl (List.map (D.int .u8) b_))]) := by
  obtain ⟨p, ⟨hne, hf⟩, hr⟩ := data_Get_ok b_ r h
  obtain ⟨k, hk⟩ := run_of (F := F44) (args := [.d (.sl (List.map (D.int .u8) b_))]) (ap := [.d (.sl (List.map (D.int .u8) b_))]) (bx0 := updW (fun _ => none) []) rfl rfl (by kernel_rfl) ⟨p, ⟨hne, hf⟩, hr⟩
  exact lim_run (k := k) rfl hk
def hansomlaw23_awake_Q  (r : Bool) (p : Out × St) : Prop := (∀ i, p.1 ≠ .exit i) ∧ finF F42 [] p.2 = some (.d (.bool r), [])
theorem hansomlaw23_awake_ok  (r : Bool) (h : hansomlaw23_awake = some r) : Runs L F42.body ⟨tmOf [] 0, updW (fun _ => none) []⟩ (hansomlaw23_awake_Q  r) := by
  unfold hansomlaw23_awake at h
  refine Runs.seq ?_
  refine Runs.ops ?_
  refine RunAt.chunk 1 [⟨.d (.bool false), []⟩] (by kernel_rfl) ?_
  refine RunAt.done (by kernel_rfl) ?_
  refine kS_nrm ?_
  refine Runs.seq ?_
  refine Runs.ops ?_
  refine RunAt.chunk 2 [⟨.ref [6] 0 0 (List.map (D.int .u8) ([7] : List Int)).length 1, [([6], some (.arr (List.map (D.int .u8) ([7] : List Int)) 0 false))]⟩, ⟨.mix [.d (.int .i64 1), .d (.int .u16 5), .ref [6] 0 0 (List.map (D.int .u8) ([7] : List Int)).length 1, .nils], []⟩] (by kernel_rfl) ?_
  obtain ⟨r_1, hr_1, h⟩ := bind_s h
  have hc_1 := data_Put_L ({ Seg := 1, Off := 5, Bytes := ([7] : List Int), Fixups := ([] : List Fixup) } : Data) r_1 hr_1
  refine RunAt.cut (some 8) (.callf 41) [] none [.mix [.d (.int .i64 1), .d (.int .u16 5), .ref [6] 0 0 (List.map (D.int .u8) ([7] : List Int)).length 1, .nils]] (.tup [.d (Record.d r_1.1), .d (.bool r_1.2)]) [([6], some (.arr (List.map (D.int .u8) ([7] : List Int)) 0 true))] (by kernel_rfl) (by kernel_rfl) (by kernel_rfl) (cut_call (call_of (ws := [([6], some (.arr (List.map (D.int .u8) ([7] : List Int)) 0 true))]) (us := [([6], some (.arr (List.map (D.int .u8) ([7] : List Int)) 0 true))]) (by kernel_rfl) (gives_cons (ws := [([6], some (.arr (List.map (D.int .u8) ([7] : List Int)) 0 true))]) (give_mix (snaps_d (snaps_d (snaps_r (e := (D.int .u8)) (l := ([7] : List Int)) (fz := false) (by kernel_rfl) (by kernel_rfl) (hl := rfl) (snaps_n Fixup.d snaps_nil))))) gives_nil) hc_1 (by kernel_rfl) (by kernel_rfl))) ?_
  refine RunAt.chunk 6 [⟨.tup [.d (Record.d r_1.1), .d (.bool r_1.2)], []⟩, ⟨.d (Record.d r_1.1), []⟩, ⟨.d (.bool r_1.2), []⟩, ⟨.ptr [1] 0 0, [([1], some (.cells [.d (.int .u8 0), .nils] 0))]⟩, ⟨.tup [], [([1], some (.cells [.d (.int .u8 r_1.1.Kind), .d (.sl (List.map (D.int .u8) r_1.1.Body))] 0))]⟩, ⟨.d (.bool r_1.2), []⟩] (by kernel_rfl) ?_
  refine RunAt.done (by kernel_rfl) ?_
  refine kS_nrm ?_
  refine Runs.seq ?_
  refine Runs.ops ?_
  refine RunAt.chunk 2 [⟨.ptr [1] 0 1, []⟩, ⟨.d (.sl (List.map (D.int .u8) r_1.1.Body)), []⟩] (by kernel_rfl) ?_
  obtain ⟨r_2, hr_2, h⟩ := bind_s h
  have hc_2 := data_Get_L r_1.1.Body r_2 hr_2
  refine RunAt.cut (some 14) (.callf 44) [] none [.d (.sl (List.map (D.int .u8) r_1.1.Body))] (.tup [.d (Data.d r_2.1), .d (.int .i64 r_2.2)]) [] (by kernel_rfl) (by kernel_rfl) (by kernel_rfl) (cut_call (call_of (ws := []) (us := []) (by kernel_rfl) (by kernel_rfl) hc_2 (by kernel_rfl) (by kernel_rfl))) ?_
  refine RunAt.chunk 6 [⟨.tup [.d (Data.d r_2.1), .d (.int .i64 r_2.2)], []⟩, ⟨.d (Data.d r_2.1), []⟩, ⟨.d (.int .i64 r_2.2), []⟩, ⟨.ptr [3] 0 0, [([3], some (.cells [.d (.int .i64 0), .d (.int .u16 0), .nils, .nils] 0))]⟩, ⟨.tup [], [([3], some (.cells [.d (.int .i64 r_2.1.Seg), .d (.int .u16 r_2.1.Off), .d (.sl (List.map (D.int .u8) r_2.1.Bytes)), .d (.sl (List.map Fixup.d r_2.1.Fixups))] 0))]⟩, ⟨.d (.int .i64 r_2.2), []⟩] (by kernel_rfl) ?_
  refine RunAt.done (by kernel_rfl) ?_
  refine kS_nrm ?_
  refine Runs.seq ?_
  refine Runs.ops ?_
  refine RunAt.chunk 2 [⟨.d (.bool r_1.2), []⟩, ⟨.d (.bool r_1.2), []⟩] (by kernel_rfl) ?_
  cases hb_1 : (r_1.2 : Bool) with
  | true =>
    replace h := ite_t hb_1 h
    refine RunAt.chunk 4 [⟨.d (.int .i64 r_2.2), []⟩, ⟨.d (.bool (r_2.2 == 0)), []⟩, ⟨.d (.bool (r_2.2 == 0)), []⟩, ⟨.d (.bool (r_2.2 == 0)), []⟩] (by kernel_rfl) ?_
    cases hb_2 : ((r_2.2 == 0) : Bool) with
    | true =>
      replace h := ite_t hb_2 h
      refine RunAt.chunk 5 [⟨.ptr [3] 0 1, []⟩, ⟨.d (.int .u16 r_2.1.Off), []⟩, ⟨.d (.bool (r_2.1.Off == 5)), []⟩, ⟨.d (.bool (r_2.1.Off == 5)), []⟩, ⟨.d (.bool (r_2.1.Off == 5)), []⟩] (by kernel_rfl) ?_
      cases hb_3 : ((r_2.1.Off == 5) : Bool) with
      | true =>
        replace h := ite_t hb_3 h
        refine RunAt.chunk 2 [⟨.ptr [3] 0 2, []⟩, ⟨.d (.sl (List.map (D.int .u8) r_2.1.Bytes)), []⟩] (by kernel_rfl) ?_
        refine RunAt.cut (some 30) .lenL [] none [.d (.sl (List.map (D.int .u8) r_2.1.Bytes))] (.d (.int .i64 (r_2.1.Bytes.length : Int))) [] (by kernel_rfl) (by kernel_rfl) (by kernel_rfl) (cut_len _) ?_
        refine RunAt.chunk 3 [⟨.d (.bool ((r_2.1.Bytes.length : Int) == 1)), []⟩, ⟨.d (.bool ((r_2.1.Bytes.length : Int) == 1)), []⟩, ⟨.d (.bool ((r_2.1.Bytes.length : Int) == 1)), []⟩] (by kernel_rfl) ?_
        cases hb_4 : (((r_2.1.Bytes.length : Int) == 1) : Bool) with
        | true =>
          replace h := ite_t hb_4 h
          refine RunAt.chunk 1 [⟨.mix [.d (.int .i64 1), .d (.int .u16 0), .nils, .nils], []⟩] (by kernel_rfl) ?_
          obtain ⟨r_3, hr_3, h⟩ := bind_s h
          have hc_3 := data_May_L ({ Seg := 1, Off := 0, Bytes := ([] : List Int), Fixups := ([] : List Fixup) } : Data) r_3 hr_3
          refine RunAt.cut (some 35) (.callf 43) [] none [.mix [.d (.int .i64 1), .d (.int .u16 0), .nils, .nils]] (.d (.bool r_3)) [] (by kernel_rfl) (by kernel_rfl) (by kernel_rfl) (cut_call (call_of (ws := []) (us := []) (by kernel_rfl) (gives_cons (ws := []) (give_mix (snaps_d (snaps_d (snaps_n (D.int .u8) (snaps_n Fixup.d snaps_nil))))) gives_nil) hc_3 (by kernel_rfl) (by kernel_rfl))) ?_
          refine RunAt.chunk 3 [⟨.d (.bool (!r_3)), []⟩, ⟨.d (.bool (!r_3)), []⟩, ⟨.d (.bool (!r_3)), []⟩] (by kernel_rfl) ?_
          refine RunAt.done (by kernel_rfl) ?_
          refine kS_nrm ?_
          refine Runs.ret ?_
          obtain rfl := Option.some.inj h
          exact ⟨Out.ret_ne, (by kernel_rfl)⟩
        | false =>
          replace h := ite_f hb_4 h
          refine RunAt.chunk 5 [⟨.tup [], []⟩, ⟨.tup [], []⟩, ⟨.tup [], []⟩, ⟨.d (.bool false), []⟩, ⟨.d (.bool false), []⟩] (by kernel_rfl) ?_
          refine RunAt.done (by kernel_rfl) ?_
          refine kS_nrm ?_
          refine Runs.ret ?_
          obtain rfl := Option.some.inj h
          exact ⟨Out.ret_ne, (by kernel_rfl)⟩
      | false =>
        replace h := ite_f hb_3 h
        refine RunAt.chunk 11 [⟨.tup [], []⟩, ⟨.tup [], []⟩, ⟨.tup [], []⟩, ⟨.tup [], []⟩, ⟨.d (.bool false), []⟩, ⟨.d (.bool false), []⟩, ⟨.tup [], []⟩, ⟨.tup [], []⟩, ⟨.tup [], []⟩, ⟨.d (.bool false), []⟩, ⟨.d (.bool false), []⟩] (by kernel_rfl) ?_
        refine RunAt.done (by kernel_rfl) ?_
        refine kS_nrm ?_
        refine Runs.ret ?_
        obtain rfl := Option.some.inj h
        exact ⟨Out.ret_ne, (by kernel_rfl)⟩
    | false =>
      replace h := ite_f hb_2 h
      refine RunAt.chunk 16 [⟨.tup [], []⟩, ⟨.tup [], []⟩, ⟨.tup [], []⟩, ⟨.d (.bool false), []⟩, ⟨.d (.bool false), []⟩, ⟨.tup [], []⟩, ⟨.tup [], []⟩, ⟨.tup [], []⟩, ⟨.tup [], []⟩, ⟨.d (.bool false), []⟩, ⟨.d (.bool false), []⟩, ⟨.tup [], []⟩, ⟨.tup [], []⟩, ⟨.tup [], []⟩, ⟨.d (.bool false), []⟩, ⟨.d (.bool false), []⟩] (by kernel_rfl) ?_
      refine RunAt.done (by kernel_rfl) ?_
      refine kS_nrm ?_
      refine Runs.ret ?_
      obtain rfl := Option.some.inj h
      exact ⟨Out.ret_ne, (by kernel_rfl)⟩
  | false =>
    replace h := ite_f hb_1 h
    refine RunAt.chunk 20 [⟨.tup [], []⟩, ⟨.tup [], []⟩, ⟨.d (.bool false), []⟩, ⟨.d (.bool false), []⟩, ⟨.tup [], []⟩, ⟨.tup [], []⟩, ⟨.tup [], []⟩, ⟨.d (.bool false), []⟩, ⟨.d (.bool false), []⟩, ⟨.tup [], []⟩, ⟨.tup [], []⟩, ⟨.tup [], []⟩, ⟨.tup [], []⟩, ⟨.d (.bool false), []⟩, ⟨.d (.bool false), []⟩, ⟨.tup [], []⟩, ⟨.tup [], []⟩, ⟨.tup [], []⟩, ⟨.d (.bool false), []⟩, ⟨.d (.bool false), []⟩] (by kernel_rfl) ?_
    refine RunAt.done (by kernel_rfl) ?_
    refine kS_nrm ?_
    refine Runs.ret ?_
    obtain rfl := Option.some.inj h
    exact ⟨Out.ret_ne, (by kernel_rfl)⟩
theorem hansomlaw23_awake_L  (r : Bool) (h : hansomlaw23_awake = some r) : L 42 [] = some (.d (.bool r), []) := by
  obtain ⟨p, ⟨hne, hf⟩, hr⟩ := hansomlaw23_awake_ok  r h
  obtain ⟨k, hk⟩ := run_of (F := F42) (args := []) (ap := []) (bx0 := updW (fun _ => none) []) rfl rfl (by kernel_rfl) ⟨p, ⟨hne, hf⟩, hr⟩
  exact lim_run (k := k) rfl hk
def hansomref18_Index_h8 (n0 : Int) : St := ⟨tab [(0, .d (.int .i64 n0))], tabB []⟩
def hansomref18_Index_Q (n_ : Int) (r : (List UInt8)) (p : Out × St) : Prop := (∀ i, p.1 ≠ .exit i) ∧ finF F17 [.d (.int .i64 n_)] p.2 = some (.d (.str r), [.d (.int .i64 n_)])
theorem hansomref18_Index_j8_ok (n_ : Int) (n0 : Int) (r : (List UInt8)) (h : hansomref18_Index_j8 n0 = some r) : Runs L F17b8 (hansomref18_Index_h8 n0) (hansomref18_Index_Q n_ r) := by
  unfold hansomref18_Index_j8 at h
  refine Runs.seq ?_
  refine Runs.seq ?_
  refine Runs.ops ?_
  refine RunAt.chunk 2 [⟨.d (.int .i64 n0), []⟩, ⟨.d (.bool (decide (n0 < 128))), []⟩] (by kernel_rfl) ?_
  refine RunAt.done (by kernel_rfl) ?_
  refine kS_nrm ?_
  cases hb_2 : ((decide (n0 < 128)) : Bool) with
  | true =>
    replace h := ite_t hb_2 h
    refine Runs.cond_t (by kernel_rfl) ?_
    refine Runs.seq ?_
    refine Runs.ops ?_
    refine RunAt.chunk 3 [⟨.d (.int .i64 n0), []⟩, ⟨.d (.int .u8 (IntKind.wrap .u8 n0)), []⟩, ⟨.ref [13] 0 0 (List.map (D.int .u8) ([(IntKind.wrap .u8 n0)] : List Int)).length 1, [([13], some (.arr (List.map (D.int .u8) ([(IntKind.wrap .u8 n0)] : List Int)) 0 false))]⟩] (by kernel_rfl) ?_
    refine RunAt.cut (some 14) .bytesStr [] none [.ref [13] 0 0 (List.map (D.int .u8) ([(IntKind.wrap .u8 n0)] : List Int)).length 1] (.d (.str (b2s ([(IntKind.wrap .u8 n0)] : List Int)))) [] (by kernel_rfl) (by kernel_rfl) (by kernel_rfl) (cut_bsR (l := ([(IntKind.wrap .u8 n0)] : List Int)) (fz := false) (by kernel_rfl) (by kernel_rfl) rfl) ?_
    refine RunAt.chunk 1 [⟨.d (.str (b2s ([(IntKind.wrap .u8 n0)] : List Int))), []⟩] (by kernel_rfl) ?_
    refine RunAt.done (by kernel_rfl) ?_
    refine kS_nrm ?_
    refine Runs.ret ?_
    refine kS_ret ?_
    obtain rfl := Option.some.inj h
    exact ⟨Out.ret_ne, (by kernel_rfl)⟩
  | false =>
    replace h := ite_f hb_2 h
    refine Runs.cond_f (by kernel_rfl) ?_
    refine Runs.skip ?_
    refine kS_nrm ?_
    refine Runs.seq ?_
    refine Runs.ops ?_
    refine RunAt.chunk 8 [⟨.d (.int .i64 n0), []⟩, ⟨.d (.int .i64 (IntKind.wrap .i64 (Int.tdiv n0 256))), []⟩, ⟨.d (.int .i64 (IntKind.wrap .i64 ((IntKind.wrap .i64 (Int.tdiv n0 256)) + 128))), []⟩, ⟨.d (.int .u8 (IntKind.wrap .u8 (IntKind.wrap .i64 ((IntKind.wrap .i64 (Int.tdiv n0 256)) + 128)))), []⟩, ⟨.d (.int .i64 n0), []⟩, ⟨.d (.int .i64 (Int.tmod n0 256)), []⟩, ⟨.d (.int .u8 (IntKind.wrap .u8 (Int.tmod n0 256))), []⟩, ⟨.ref [22] 0 0 (List.map (D.int .u8) ([(IntKind.wrap .u8 (IntKind.wrap .i64 ((IntKind.wrap .i64 (Int.tdiv n0 256)) + 128))), (IntKind.wrap .u8 (Int.tmod n0 256))] : List Int)).length 1, [([22], some (.arr (List.map (D.int .u8) ([(IntKind.wrap .u8 (IntKind.wrap .i64 ((IntKind.wrap .i64 (Int.tdiv n0 256)) + 128))), (IntKind.wrap .u8 (Int.tmod n0 256))] : List Int)) 0 false))]⟩] (by kernel_rfl) ?_
    refine RunAt.cut (some 23) .bytesStr [] none [.ref [22] 0 0 (List.map (D.int .u8) ([(IntKind.wrap .u8 (IntKind.wrap .i64 ((IntKind.wrap .i64 (Int.tdiv n0 256)) + 128))), (IntKind.wrap .u8 (Int.tmod n0 256))] : List Int)).length 1] (.d (.str (b2s ([(IntKind.wrap .u8 (IntKind.wrap .i64 ((IntKind.wrap .i64 (Int.tdiv n0 256)) + 128))), (IntKind.wrap .u8 (Int.tmod n0 256))] : List Int)))) [] (by kernel_rfl) (by kernel_rfl) (by kernel_rfl) (cut_bsR (l := ([(IntKind.wrap .u8 (IntKind.wrap .i64 ((IntKind.wrap .i64 (Int.tdiv n0 256)) + 128))), (IntKind.wrap .u8 (Int.tmod n0 256))] : List Int)) (fz := false) (by kernel_rfl) (by kernel_rfl) rfl) ?_
    refine RunAt.chunk 1 [⟨.d (.str (b2s ([(IntKind.wrap .u8 (IntKind.wrap .i64 ((IntKind.wrap .i64 (Int.tdiv n0 256)) + 128))), (IntKind.wrap .u8 (Int.tmod n0 256))] : List Int))), []⟩] (by kernel_rfl) ?_
    refine RunAt.done (by kernel_rfl) ?_
    refine kS_nrm ?_
    refine Runs.ret ?_
    obtain rfl := Option.some.inj h
    exact ⟨Out.ret_ne, (by kernel_rfl)⟩
theorem hansomref18_Index_ok (n_ : Int) (r : (List UInt8)) (h : hansomref18_Index n_ = some r) : Runs L F17.body ⟨tmOf [.d (.int .i64 n_)] 0, updW (fun _ => none) []⟩ (hansomref18_Index_Q n_ r) := by
  unfold hansomref18_Index at h
  refine Runs.seq ?_
  refine Runs.ops ?_
  refine RunAt.chunk 1 [⟨.d (.str ([] : List UInt8)), []⟩] (by kernel_rfl) ?_
  refine RunAt.done (by kernel_rfl) ?_
  refine kS_nrm ?_
  refine Runs.seq ?_
  refine Runs.seq ?_
  refine Runs.ops ?_
  refine RunAt.chunk 3 [⟨.d (.int .i64 n_), []⟩, ⟨.d (.bool (decide (n_ < 0))), []⟩, ⟨.d (.bool (decide (n_ < 0))), []⟩] (by kernel_rfl) ?_
  cases hb_1 : ((decide (n_ < 0)) : Bool) with
  | true =>
    replace h := ite_t hb_1 h
    refine RunAt.chunk 3 [⟨.tup [], []⟩, ⟨.tup [], []⟩, ⟨.d (.bool true), []⟩] (by kernel_rfl) ?_
    refine RunAt.done (by kernel_rfl) ?_
    refine kS_nrm ?_
    refine Runs.cond_t (by kernel_rfl) ?_
    refine Runs.ops ?_
    refine RunAt.chunk 1 [⟨.d (.int .i64 0), []⟩] (by kernel_rfl) ?_
    refine RunAt.done (by kernel_rfl) ?_
    refine kS_nrm ?_
    refine Runs.canon (hansomref18_Index_h8 0) (Canon.nil (by kernel_rfl)) ?_
    exact hansomref18_Index_j8_ok n_ 0 r h
  | false =>
    replace h := ite_f hb_1 h
    refine RunAt.chunk 3 [⟨.d (.int .i64 n_), []⟩, ⟨.d (.bool (decide (n_ > 32767))), []⟩, ⟨.d (.bool (decide (n_ > 32767))), []⟩] (by kernel_rfl) ?_
    refine RunAt.done (by kernel_rfl) ?_
    refine kS_nrm ?_
    cases hb_3 : ((decide (n_ > 32767)) : Bool) with
    | true =>
      replace h := ite_t hb_3 h
      refine Runs.cond_t (by kernel_rfl) ?_
      refine Runs.ops ?_
      refine RunAt.chunk 1 [⟨.d (.int .i64 0), []⟩] (by kernel_rfl) ?_
      refine RunAt.done (by kernel_rfl) ?_
      refine kS_nrm ?_
      refine Runs.canon (hansomref18_Index_h8 0) (Canon.nil (by kernel_rfl)) ?_
      exact hansomref18_Index_j8_ok n_ 0 r h
    | false =>
      replace h := ite_f hb_3 h
      refine Runs.cond_f (by kernel_rfl) ?_
      refine Runs.skip ?_
      refine kS_nrm ?_
      refine Runs.canon (hansomref18_Index_h8 n_) (Canon.nil (by kernel_rfl)) ?_
      exact hansomref18_Index_j8_ok n_ n_ r h
theorem hansomref18_Index_L (n_ : Int) (r : (List UInt8)) (h : hansomref18_Index n_ = some r) : L 17 [.d (.int .i64 n_)] = some (.d (.str r), [.d (.int .i64 n_)]) := by
  obtain ⟨p, ⟨hne, hf⟩, hr⟩ := hansomref18_Index_ok n_ r h
  obtain ⟨k, hk⟩ := run_of (F := F17) (args := [.d (.int .i64 n_)]) (ap := [.d (.int .i64 n_)]) (bx0 := updW (fun _ => none) []) rfl rfl (by kernel_rfl) ⟨p, ⟨hne, hf⟩, hr⟩
  exact lim_run (k := k) rfl hk
def hansomref18_Bytes_h8 (n0 : Int) (many1 : Int) (s5 : (List UInt8)) (i6 : Int) : St := ⟨tab [(0, .d (.int .u64 n0)), (1, .d (.int .i64 many1)), (5, .d (.str s5)), (6, .d (.int .i64 i6))], tabB []⟩
def hansomref18_Bytes_h21 (s5 : (List UInt8)) : St := ⟨tab [(5, .d (.str s5))], tabB []⟩
def hansomref18_Bytes_Q (n_ : Int) (many_ : Int) (r : (List UInt8)) (p : Out × St) : Prop := (∀ i, p.1 ≠ .exit i) ∧ finF F21 [.d (.int .u64 n_), .d (.int .i64 many_)] p.2 = some (.d (.str r), [.d (.int .u64 n_), .d (.int .i64 many_)])
def hansomref18_Bytes_P8 (n_ : Int) (many_ : Int) (many1 : Int) (e : (List UInt8)) (p : Out × St) : Prop := p.1 = .exit 0 ∧ ∃ g : Unit, Canon [] [5] [] p.2 (hansomref18_Bytes_h21 e)
theorem hansomref18_Bytes_l8_ok (n_ : Int) (many_ : Int) (n0 : Int) (many1 : Int) (s5 : (List UInt8)) (i6 : Int) (r : (Lp (Int × (List UInt8) × Int) (List UInt8))) (h : hansomref18_Bytes_l8 n0 many1 s5 i6 = some r) : Runs L F21l8 (hansomref18_Bytes_h8 n0 many1 s5 i6) (LQ [] [0, 1, 5, 6] [] (fun (x : (Int × (List UInt8) × Int)) (g : Unit) => hansomref18_Bytes_h8 x.1 many1 x.2.1 x.2.2) (hansomref18_Bytes_P8 n_ many_ many1) r) := by
  unfold hansomref18_Bytes_l8 at h
  refine Runs.seq ?_
  refine Runs.seq ?_
  refine Runs.ops ?_
  refine RunAt.chunk 3 [⟨.d (.int .i64 i6), []⟩, ⟨.d (.int .i64 many1), []⟩, ⟨.d (.bool (decide (i6 < many1))), []⟩] (by kernel_rfl) ?_
  refine RunAt.done (by kernel_rfl) ?_
  refine kS_nrm ?_
  cases hb_1 : ((decide (i6 < many1)) : Bool) with
  | true =>
    replace h := ite_t hb_1 h
    refine Runs.cond_t (by kernel_rfl) ?_
    refine Runs.skip ?_
    refine kS_nrm ?_
    refine Runs.seq ?_
    refine Runs.block ?_
    refine Runs.seq ?_
    refine Runs.ops ?_
    refine RunAt.chunk 5 [⟨.d (.str s5), []⟩, ⟨.d (.int .u64 n0), []⟩, ⟨.d (.int .u64 (Int.tmod n0 256)), []⟩, ⟨.d (.int .u8 (IntKind.wrap .u8 (Int.tmod n0 256))), []⟩, ⟨.ref [16] 0 0 (List.map (D.int .u8) ([(IntKind.wrap .u8 (Int.tmod n0 256))] : List Int)).length 1, [([16], some (.arr (List.map (D.int .u8) ([(IntKind.wrap .u8 (Int.tmod n0 256))] : List Int)) 0 false))]⟩] (by kernel_rfl) ?_
    refine RunAt.cut (some 17) .bytesStr [] none [.ref [16] 0 0 (List.map (D.int .u8) ([(IntKind.wrap .u8 (Int.tmod n0 256))] : List Int)).length 1] (.d (.str (b2s ([(IntKind.wrap .u8 (Int.tmod n0 256))] : List Int)))) [] (by kernel_rfl) (by kernel_rfl) (by kernel_rfl) (cut_bsR (l := ([(IntKind.wrap .u8 (Int.tmod n0 256))] : List Int)) (fz := false) (by kernel_rfl) (by kernel_rfl) rfl) ?_
    obtain ⟨z_1, hz_1, h⟩ := bind_s h
    refine RunAt.cut (some 18) (.bin .add) [] none [.d (.str s5), .d (.str (b2s ([(IntKind.wrap .u8 (Int.tmod n0 256))] : List Int)))] (.d (.str z_1)) [] (by kernel_rfl) (by kernel_rfl) (by kernel_rfl) (cut_cat hz_1) ?_
    refine RunAt.chunk 1 [⟨.d (.str z_1), []⟩] (by kernel_rfl) ?_
    refine RunAt.done (by kernel_rfl) ?_
    refine kS_nrm ?_
    refine Runs.ops ?_
    refine RunAt.chunk 3 [⟨.d (.int .u64 n0), []⟩, ⟨.d (.int .u64 (IntKind.wrap .u64 (Int.tdiv n0 256))), []⟩, ⟨.d (.int .u64 (IntKind.wrap .u64 (Int.tdiv n0 256))), []⟩] (by kernel_rfl) ?_
    refine RunAt.done (by kernel_rfl) ?_
    refine kB_nrm ?_
    refine kS_nrm ?_
    refine Runs.ops ?_
    refine RunAt.chunk 3 [⟨.d (.int .i64 i6), []⟩, ⟨.d (.int .i64 (IntKind.wrap .i64 (i6 + 1))), []⟩, ⟨.d (.int .i64 (IntKind.wrap .i64 (i6 + 1))), []⟩] (by kernel_rfl) ?_
    refine RunAt.done (by kernel_rfl) ?_
    obtain rfl := Option.some.inj h
    exact ⟨rfl, (), (Canon.nil (by kernel_rfl))⟩
  | false =>
    replace h := ite_f hb_1 h
    refine Runs.cond_f (by kernel_rfl) ?_
    refine Runs.exit ?_
    refine kS_exit ?_
    obtain rfl := Option.some.inj h
    exact ⟨nofun, rfl, (), (Canon.nil (by kernel_rfl))⟩
theorem hansomref18_Bytes_ok (n_ : Int) (many_ : Int) (r : (List UInt8)) (h : hansomref18_Bytes n_ many_ = some r) : Runs L F21.body ⟨tmOf [.d (.int .u64 n_), .d (.int .i64 many_)] 0, updW (fun _ => none) []⟩ (hansomref18_Bytes_Q n_ many_ r) := by
  unfold hansomref18_Bytes at h
  refine Runs.seq ?_
  refine Runs.ops ?_
  refine RunAt.chunk 1 [⟨.d (.str ([] : List UInt8)), []⟩] (by kernel_rfl) ?_
  refine RunAt.done (by kernel_rfl) ?_
  refine kS_nrm ?_
  refine Runs.seq ?_
  refine Runs.ops ?_
  refine RunAt.chunk 1 [⟨.d (.str ([] : List UInt8)), []⟩] (by kernel_rfl) ?_
  refine RunAt.done (by kernel_rfl) ?_
  refine kS_nrm ?_
  refine Runs.seq ?_
  refine Runs.seq ?_
  refine Runs.ops ?_
  refine RunAt.chunk 1 [⟨.d (.int .i64 0), []⟩] (by kernel_rfl) ?_
  refine RunAt.done (by kernel_rfl) ?_
  refine kS_nrm ?_
  refine Runs.block ?_
  obtain ⟨e_1, he_1, h⟩ := bind_s h
  refine Runs.loop (fun x : (Int × (List UInt8) × Int) => hansomref18_Bytes_l8 x.1 many_ x.2.1 x.2.2) (fun (x : (Int × (List UInt8) × Int)) (g : Unit) => hansomref18_Bytes_h8 x.1 many_ x.2.1 x.2.2) (hansomref18_Bytes_P8 n_ many_ many_) (fun x g r hr => hansomref18_Bytes_l8_ok n_ many_ x.1 many_ x.2.1 x.2.2  r hr) () he_1 (Canon.nil (by kernel_rfl)) ?_
  rintro ⟨o, s⟩ hp
  obtain ⟨ho, g_1, hk_1⟩ := hp
  have ho' : o = .exit 0 := ho
  subst ho'
  refine kB_hit ?_
  refine kS_nrm ?_
  refine Runs.canon _ hk_1 ?_
  refine Runs.seq ?_
  refine Runs.ops ?_
  refine RunAt.chunk 2 [⟨.d (.str e_1), []⟩, ⟨.d (.str e_1), []⟩] (by kernel_rfl) ?_
  refine RunAt.done (by kernel_rfl) ?_
  refine kS_nrm ?_
  refine Runs.ret ?_
  obtain rfl := Option.some.inj h
  exact ⟨Out.ret_ne, (by kernel_rfl)⟩
theorem hansomref18_Bytes_L (n_ : Int) (many_ : Int) (r : (List UInt8)) (h : hansomref18_Bytes n_ many_ = some r) : L 21 [.d (.int .u64 n_), .d (.int .i64 many_)] = some (.d (.str r), [.d (.int .u64 n_), .d (.int .i64 many_)]) := by
  obtain ⟨p, ⟨hne, hf⟩, hr⟩ := hansomref18_Bytes_ok n_ many_ r h
  obtain ⟨k, hk⟩ := run_of (F := F21) (args := [.d (.int .u64 n_), .d (.int .i64 many_)]) (ap := [.d (.int .u64 n_), .d (.int .i64 many_)]) (bx0 := updW (fun _ => none) []) rfl rfl (by kernel_rfl) ⟨p, ⟨hne, hf⟩, hr⟩
  exact lim_run (k := k) rfl hk
def hansomlaw23_DataBack_h17 (x5_0 : Int) (x5_1 : Int) (x5_2 : (List Int)) : St := ⟨tab [(5, .ptr [5] 0 0)], tabB [([5], some (.cells [.d (.int .i64 x5_0), .d (.int .u16 x5_1), .d (.sl (List.map (D.int .u8) x5_2)), .nils] 0))]⟩
def hansomlaw23_DataBack_h21 (x5_0 : Int) (x5_1 : Int) (x5_2 : (List Int)) (may7 : Bool) : St := ⟨tab [(5, .ptr [5] 0 0), (7, .d (.bool may7))], tabB [([5], some (.cells [.d (.int .i64 x5_0), .d (.int .u16 x5_1), .d (.sl (List.map (D.int .u8) x5_2)), .nils] 0))]⟩
def hansomlaw23_DataBack_Q (d_ : Data) (odd_ : Int) (r : Bool) (p : Out × St) : Prop := (∀ i, p.1 ≠ .exit i) ∧ finF F7 [.d (Data.d d_), .d (.int .i64 odd_)] p.2 = some (.d (.bool r), [.d (Data.d d_), .d (.int .i64 odd_)])
theorem hansomlaw23_DataBack_j21_ok (d_ : Data) (odd_ : Int) (x5_0 : Int) (x5_1 : Int) (x5_2 : (List Int)) (may7 : Bool) (r : Bool) (h : hansomlaw23_DataBack_j21 x5_0 x5_1 x5_2 may7 = some r) : Runs L F7b21 (hansomlaw23_DataBack_h21 x5_0 x5_1 x5_2 may7) (hansomlaw23_DataBack_Q d_ odd_ r) := by
  unfold hansomlaw23_DataBack_j21 at h
  refine Runs.seq ?_
  refine Runs.ops ?_
  refine RunAt.chunk 1 [⟨.mix [.d (.int .i64 x5_0), .d (.int .u16 x5_1), .d (.sl (List.map (D.int .u8) x5_2)), .nils], []⟩] (by kernel_rfl) ?_
  obtain ⟨r_1, hr_1, h⟩ := bind_s h
  have hc_1 := data_Put_L ({ Seg := x5_0, Off := x5_1, Bytes := x5_2, Fixups := ([] : List Fixup) } : Data) r_1 hr_1
  refine RunAt.cut (some 70) (.callf 41) [] none [.mix [.d (.int .i64 x5_0), .d (.int .u16 x5_1), .d (.sl (List.map (D.int .u8) x5_2)), .nils]] (.tup [.d (Record.d r_1.1), .d (.bool r_1.2)]) [] (by kernel_rfl) (by kernel_rfl) (by kernel_rfl) (cut_call (call_of (ws := []) (us := []) (by kernel_rfl) (gives_cons (ws := []) (give_mix (snaps_d (snaps_d (snaps_d (snaps_n Fixup.d snaps_nil))))) gives_nil) hc_1 (by kernel_rfl) (by kernel_rfl))) ?_
  refine RunAt.chunk 6 [⟨.tup [.d (Record.d r_1.1), .d (.bool r_1.2)], []⟩, ⟨.d (Record.d r_1.1), []⟩, ⟨.d (.bool r_1.2), []⟩, ⟨.ptr [8] 0 0, [([8], some (.cells [.d (.int .u8 0), .nils] 0))]⟩, ⟨.tup [], [([8], some (.cells [.d (.int .u8 r_1.1.Kind), .d (.sl (List.map (D.int .u8) r_1.1.Body))] 0))]⟩, ⟨.d (.bool r_1.2), []⟩] (by kernel_rfl) ?_
  refine RunAt.done (by kernel_rfl) ?_
  refine kS_nrm ?_
  refine Runs.seq ?_
  refine Runs.seq ?_
  refine Runs.ops ?_
  obtain ⟨r_2, hr_2, h⟩ := bind_s h
  have hc_2 := hansomlaw23_awake_L r_2 hr_2
  refine RunAt.cut (some 73) (.callf 42) [] none [] (.d (.bool r_2)) [] (by kernel_rfl) (by kernel_rfl) (by kernel_rfl) (cut_call (call_of (ws := []) (us := []) (by kernel_rfl) (by kernel_rfl) hc_2 (by kernel_rfl) (by kernel_rfl))) ?_
  refine RunAt.chunk 2 [⟨.d (.bool (!r_2)), []⟩, ⟨.d (.bool (!r_2)), []⟩] (by kernel_rfl) ?_
  cases hb_6 : ((!r_2) : Bool) with
  | true =>
    replace h := ite_t hb_6 h
    refine RunAt.chunk 10 [⟨.tup [], []⟩, ⟨.tup [], []⟩, ⟨.tup [], []⟩, ⟨.tup [], []⟩, ⟨.d (.bool true), []⟩, ⟨.d (.bool true), []⟩, ⟨.tup [], []⟩, ⟨.tup [], []⟩, ⟨.tup [], []⟩, ⟨.d (.bool true), []⟩] (by kernel_rfl) ?_
    refine RunAt.done (by kernel_rfl) ?_
    refine kS_nrm ?_
    refine Runs.cond_t (by kernel_rfl) ?_
    refine Runs.seq ?_
    refine Runs.ops ?_
    refine RunAt.chunk 1 [⟨.d (.bool false), []⟩] (by kernel_rfl) ?_
    refine RunAt.done (by kernel_rfl) ?_
    refine kS_nrm ?_
    refine Runs.ret ?_
    refine kS_ret ?_
    obtain rfl := Option.some.inj h
    exact ⟨Out.ret_ne, (by kernel_rfl)⟩
  | false =>
    replace h := ite_f hb_6 h
    refine RunAt.chunk 1 [⟨.mix [.d (.int .i64 x5_0), .d (.int .u16 x5_1), .d (.sl (List.map (D.int .u8) x5_2)), .nils], []⟩] (by kernel_rfl) ?_
    obtain ⟨r_3, hr_3, h⟩ := bind_s h
    have hc_3 := data_May_L ({ Seg := x5_0, Off := x5_1, Bytes := x5_2, Fixups := ([] : List Fixup) } : Data) r_3 hr_3
    refine RunAt.cut (some 77) (.callf 43) [] none [.mix [.d (.int .i64 x5_0), .d (.int .u16 x5_1), .d (.sl (List.map (D.int .u8) x5_2)), .nils]] (.d (.bool r_3)) [] (by kernel_rfl) (by kernel_rfl) (by kernel_rfl) (cut_call (call_of (ws := []) (us := []) (by kernel_rfl) (gives_cons (ws := []) (give_mix (snaps_d (snaps_d (snaps_d (snaps_n Fixup.d snaps_nil))))) gives_nil) hc_3 (by kernel_rfl) (by kernel_rfl))) ?_
    refine RunAt.chunk 4 [⟨.d (.bool may7), []⟩, ⟨.d (.bool (r_3 != may7)), []⟩, ⟨.d (.bool (r_3 != may7)), []⟩, ⟨.d (.bool (r_3 != may7)), []⟩] (by kernel_rfl) ?_
    cases hb_7 : ((r_3 != may7) : Bool) with
    | true =>
      replace h := ite_t hb_7 h
      refine RunAt.chunk 4 [⟨.tup [], []⟩, ⟨.tup [], []⟩, ⟨.tup [], []⟩, ⟨.d (.bool true), []⟩] (by kernel_rfl) ?_
      refine RunAt.done (by kernel_rfl) ?_
      refine kS_nrm ?_
      refine Runs.cond_t (by kernel_rfl) ?_
      refine Runs.seq ?_
      refine Runs.ops ?_
      refine RunAt.chunk 1 [⟨.d (.bool false), []⟩] (by kernel_rfl) ?_
      refine RunAt.done (by kernel_rfl) ?_
      refine kS_nrm ?_
      refine Runs.ret ?_
      refine kS_ret ?_
      obtain rfl := Option.some.inj h
      exact ⟨Out.ret_ne, (by kernel_rfl)⟩
    | false =>
      replace h := ite_f hb_7 h
      refine RunAt.chunk 4 [⟨.d (.bool r_1.2), []⟩, ⟨.d (.bool may7), []⟩, ⟨.d (.bool (r_1.2 != may7)), []⟩, ⟨.d (.bool (r_1.2 != may7)), []⟩] (by kernel_rfl) ?_
      refine RunAt.done (by kernel_rfl) ?_
      refine kS_nrm ?_
      cases hb_8 : ((r_1.2 != may7) : Bool) with
      | true =>
        replace h := ite_t hb_8 h
        refine Runs.cond_t (by kernel_rfl) ?_
        refine Runs.seq ?_
        refine Runs.ops ?_
        refine RunAt.chunk 1 [⟨.d (.bool false), []⟩] (by kernel_rfl) ?_
        refine RunAt.done (by kernel_rfl) ?_
        refine kS_nrm ?_
        refine Runs.ret ?_
        refine kS_ret ?_
        obtain rfl := Option.some.inj h
        exact ⟨Out.ret_ne, (by kernel_rfl)⟩
      | false =>
        replace h := ite_f hb_8 h
        refine Runs.cond_f (by kernel_rfl) ?_
        refine Runs.skip ?_
        refine kS_nrm ?_
        refine Runs.seq ?_
        refine Runs.seq ?_
        refine Runs.ops ?_
        refine RunAt.chunk 2 [⟨.d (.bool may7), []⟩, ⟨.d (.bool (!may7)), []⟩] (by kernel_rfl) ?_
        refine RunAt.done (by kernel_rfl) ?_
        refine kS_nrm ?_
        cases hb_9 : ((!may7) : Bool) with
        | true =>
          replace h := ite_t hb_9 h
          refine Runs.cond_t (by kernel_rfl) ?_
          refine Runs.seq ?_
          refine Runs.ops ?_
          refine RunAt.chunk 2 [⟨.ptr [8] 0 1, []⟩, ⟨.d (.sl (List.map (D.int .u8) r_1.1.Body)), []⟩] (by kernel_rfl) ?_
          refine RunAt.cut (some 90) .lenL [] none [.d (.sl (List.map (D.int .u8) r_1.1.Body))] (.d (.int .i64 (r_1.1.Body.length : Int))) [] (by kernel_rfl) (by kernel_rfl) (by kernel_rfl) (cut_len _) ?_
          refine RunAt.chunk 2 [⟨.d (.bool ((r_1.1.Body.length : Int) == 0)), []⟩, ⟨.d (.bool ((r_1.1.Body.length : Int) == 0)), []⟩] (by kernel_rfl) ?_
          refine RunAt.done (by kernel_rfl) ?_
          refine kS_nrm ?_
          refine Runs.ret ?_
          refine kS_ret ?_
          obtain rfl := Option.some.inj h
          exact ⟨Out.ret_ne, (by kernel_rfl)⟩
        | false =>
          replace h := ite_f hb_9 h
          refine Runs.cond_f (by kernel_rfl) ?_
          refine Runs.skip ?_
          refine kS_nrm ?_
          refine Runs.seq ?_
          refine Runs.ops ?_
          refine RunAt.chunk 2 [⟨.ptr [8] 0 1, []⟩, ⟨.d (.sl (List.map (D.int .u8) r_1.1.Body)), []⟩] (by kernel_rfl) ?_
          obtain ⟨r_4, hr_4, h⟩ := bind_s h
          have hc_4 := data_Get_L r_1.1.Body r_4 hr_4
          refine RunAt.cut (some 95) (.callf 44) [] none [.d (.sl (List.map (D.int .u8) r_1.1.Body))] (.tup [.d (Data.d r_4.1), .d (.int .i64 r_4.2)]) [] (by kernel_rfl) (by kernel_rfl) (by kernel_rfl) (cut_call (call_of (ws := []) (us := []) (by kernel_rfl) (by kernel_rfl) hc_4 (by kernel_rfl) (by kernel_rfl))) ?_
          refine RunAt.chunk 6 [⟨.tup [.d (Data.d r_4.1), .d (.int .i64 r_4.2)], []⟩, ⟨.d (Data.d r_4.1), []⟩, ⟨.d (.int .i64 r_4.2), []⟩, ⟨.ptr [10] 0 0, [([10], some (.cells [.d (.int .i64 0), .d (.int .u16 0), .nils, .nils] 0))]⟩, ⟨.tup [], [([10], some (.cells [.d (.int .i64 r_4.1.Seg), .d (.int .u16 r_4.1.Off), .d (.sl (List.map (D.int .u8) r_4.1.Bytes)), .d (.sl (List.map Fixup.d r_4.1.Fixups))] 0))]⟩, ⟨.d (.int .i64 r_4.2), []⟩] (by kernel_rfl) ?_
          refine RunAt.done (by kernel_rfl) ?_
          refine kS_nrm ?_
          refine Runs.seq ?_
          refine Runs.ops ?_
          refine RunAt.chunk 2 [⟨.ptr [8] 0 1, []⟩, ⟨.d (.sl (List.map (D.int .u8) r_1.1.Body)), []⟩] (by kernel_rfl) ?_
          refine RunAt.cut (some 100) .bytesStr [[103], [107]] none [.d (.sl (List.map (D.int .u8) r_1.1.Body))] (.d (.str (b2s r_1.1.Body))) [] (by kernel_rfl) (by kernel_rfl) (by kernel_rfl) (cut_bs _) ?_
          refine RunAt.chunk 2 [⟨.ptr [5] 0 0, []⟩, ⟨.d (.int .i64 x5_0), []⟩] (by kernel_rfl) ?_
          obtain ⟨r_5, hr_5, h⟩ := bind_s h
          have hc_5 := hansomref18_Index_L x5_0 r_5 hr_5
          refine RunAt.cut (some 103) (.callf 17) [] (some []) [.d (.int .i64 x5_0)] (.d (.str r_5)) [] (by kernel_rfl) (by kernel_rfl) (by kernel_rfl) (cut_call (call_of (ws := []) (us := []) (by kernel_rfl) (by kernel_rfl) hc_5 (by kernel_rfl) (by kernel_rfl))) ?_
          refine RunAt.chunk 3 [⟨.ptr [5] 0 1, []⟩, ⟨.d (.int .u16 x5_1), []⟩, ⟨.d (.int .u64 (IntKind.wrap .u64 x5_1)), []⟩] (by kernel_rfl) ?_
          obtain ⟨r_6, hr_6, h⟩ := bind_s h
          have hc_6 := hansomref18_Bytes_L (IntKind.wrap .u64 x5_1) 2 r_6 hr_6
          refine RunAt.cut (some 107) (.callf 21) [] (some []) [.d (.int .u64 (IntKind.wrap .u64 x5_1)), .d (.int .i64 2)] (.d (.str r_6)) [] (by kernel_rfl) (by kernel_rfl) (by kernel_rfl) (cut_call (call_of (ws := []) (us := []) (by kernel_rfl) (by kernel_rfl) hc_6 (by kernel_rfl) (by kernel_rfl))) ?_
          obtain ⟨z_2, hz_2, h⟩ := bind_s h
          refine RunAt.cut (some 108) (.bin .add) [] none [.d (.str r_5), .d (.str r_6)] (.d (.str z_2)) [] (by kernel_rfl) (by kernel_rfl) (by kernel_rfl) (cut_cat hz_2) ?_
          refine RunAt.chunk 2 [⟨.ptr [5] 0 2, []⟩, ⟨.d (.sl (List.map (D.int .u8) x5_2)), []⟩] (by kernel_rfl) ?_
          refine RunAt.cut (some 111) .bytesStr [[103], [107]] none [.d (.sl (List.map (D.int .u8) x5_2))] (.d (.str (b2s x5_2))) [] (by kernel_rfl) (by kernel_rfl) (by kernel_rfl) (cut_bs _) ?_
          obtain ⟨z_3, hz_3, h⟩ := bind_s h
          refine RunAt.cut (some 112) (.bin .add) [] none [.d (.str z_2), .d (.str (b2s x5_2))] (.d (.str z_3)) [] (by kernel_rfl) (by kernel_rfl) (by kernel_rfl) (cut_cat hz_3) ?_
          refine RunAt.chunk 2 [⟨.d (.bool ((b2s r_1.1.Body) == z_3)), []⟩, ⟨.d (.bool ((b2s r_1.1.Body) == z_3)), []⟩] (by kernel_rfl) ?_
          cases hb_10 : (((b2s r_1.1.Body) == z_3) : Bool) with
          | true =>
            replace h := ite_t hb_10 h
            refine RunAt.chunk 5 [⟨.ptr [8] 0 0, []⟩, ⟨.d (.int .u8 r_1.1.Kind), []⟩, ⟨.d (.bool (r_1.1.Kind == 160)), []⟩, ⟨.d (.bool (r_1.1.Kind == 160)), []⟩, ⟨.d (.bool (r_1.1.Kind == 160)), []⟩] (by kernel_rfl) ?_
            cases hb_11 : ((r_1.1.Kind == 160) : Bool) with
            | true =>
              replace h := ite_t hb_11 h
              refine RunAt.chunk 4 [⟨.d (.int .i64 r_4.2), []⟩, ⟨.d (.bool (r_4.2 == 0)), []⟩, ⟨.d (.bool (r_4.2 == 0)), []⟩, ⟨.d (.bool (r_4.2 == 0)), []⟩] (by kernel_rfl) ?_
              cases hb_12 : ((r_4.2 == 0) : Bool) with
              | true =>
                replace h := ite_t hb_12 h
                refine RunAt.chunk 7 [⟨.ptr [10] 0 0, []⟩, ⟨.d (.int .i64 r_4.1.Seg), []⟩, ⟨.ptr [5] 0 0, []⟩, ⟨.d (.int .i64 x5_0), []⟩, ⟨.d (.bool (r_4.1.Seg == x5_0)), []⟩, ⟨.d (.bool (r_4.1.Seg == x5_0)), []⟩, ⟨.d (.bool (r_4.1.Seg == x5_0)), []⟩] (by kernel_rfl) ?_
                cases hb_13 : ((r_4.1.Seg == x5_0) : Bool) with
                | true =>
                  replace h := ite_t hb_13 h
                  refine RunAt.chunk 7 [⟨.ptr [10] 0 1, []⟩, ⟨.d (.int .u16 r_4.1.Off), []⟩, ⟨.ptr [5] 0 1, []⟩, ⟨.d (.int .u16 x5_1), []⟩, ⟨.d (.bool (r_4.1.Off == x5_1)), []⟩, ⟨.d (.bool (r_4.1.Off == x5_1)), []⟩, ⟨.d (.bool (r_4.1.Off == x5_1)), []⟩] (by kernel_rfl) ?_
                  cases hb_14 : ((r_4.1.Off == x5_1) : Bool) with
                  | true =>
                    replace h := ite_t hb_14 h
                    refine RunAt.chunk 2 [⟨.ptr [10] 0 2, []⟩, ⟨.d (.sl (List.map (D.int .u8) r_4.1.Bytes)), []⟩] (by kernel_rfl) ?_
                    refine RunAt.cut (some 140) .bytesStr [] none [.d (.sl (List.map (D.int .u8) r_4.1.Bytes))] (.d (.str (b2s r_4.1.Bytes))) [] (by kernel_rfl) (by kernel_rfl) (by kernel_rfl) (cut_bs _) ?_
                    refine RunAt.chunk 2 [⟨.ptr [5] 0 2, []⟩, ⟨.d (.sl (List.map (D.int .u8) x5_2)), []⟩] (by kernel_rfl) ?_
                    refine RunAt.cut (some 143) .bytesStr [] none [.d (.sl (List.map (D.int .u8) x5_2))] (.d (.str (b2s x5_2))) [] (by kernel_rfl) (by kernel_rfl) (by kernel_rfl) (cut_bs _) ?_
                    refine RunAt.chunk 3 [⟨.d (.bool ((b2s r_4.1.Bytes) == (b2s x5_2))), []⟩, ⟨.d (.bool ((b2s r_4.1.Bytes) == (b2s x5_2))), []⟩, ⟨.d (.bool ((b2s r_4.1.Bytes) == (b2s x5_2))), []⟩] (by kernel_rfl) ?_
                    cases hb_15 : (((b2s r_4.1.Bytes) == (b2s x5_2)) : Bool) with
                    | true =>
                      replace h := ite_t hb_15 h
                      refine RunAt.chunk 2 [⟨.ptr [10] 0 3, []⟩, ⟨.d (.sl (List.map Fixup.d r_4.1.Fixups)), []⟩] (by kernel_rfl) ?_
                      refine RunAt.cut (some 149) .lenL [] none [.d (.sl (List.map Fixup.d r_4.1.Fixups))] (.d (.int .i64 (r_4.1.Fixups.length : Int))) [] (by kernel_rfl) (by kernel_rfl) (by kernel_rfl) (cut_len _) ?_
                      refine RunAt.chunk 3 [⟨.d (.bool ((r_4.1.Fixups.length : Int) == 0)), []⟩, ⟨.d (.bool ((r_4.1.Fixups.length : Int) == 0)), []⟩, ⟨.d (.bool ((r_4.1.Fixups.length : Int) == 0)), []⟩] (by kernel_rfl) ?_
                      refine RunAt.done (by kernel_rfl) ?_
                      refine kS_nrm ?_
                      refine Runs.ret ?_
                      obtain rfl := Option.some.inj h
                      exact ⟨Out.ret_ne, (by kernel_rfl)⟩
                    | false =>
                      replace h := ite_f hb_15 h
                      refine RunAt.chunk 6 [⟨.tup [], []⟩, ⟨.tup [], []⟩, ⟨.tup [], []⟩, ⟨.tup [], []⟩, ⟨.d (.bool false), []⟩, ⟨.d (.bool false), []⟩] (by kernel_rfl) ?_
                      refine RunAt.done (by kernel_rfl) ?_
                      refine kS_nrm ?_
                      refine Runs.ret ?_
                      obtain rfl := Option.some.inj h
                      exact ⟨Out.ret_ne, (by kernel_rfl)⟩
                  | false =>
                    replace h := ite_f hb_14 h
                    refine RunAt.chunk 15 [⟨.tup [], []⟩, ⟨.tup [], []⟩, ⟨.tup [], []⟩, ⟨.tup [], []⟩, ⟨.tup [], []⟩, ⟨.tup [], []⟩, ⟨.tup [], []⟩, ⟨.d (.bool false), []⟩, ⟨.d (.bool false), []⟩, ⟨.tup [], []⟩, ⟨.tup [], []⟩, ⟨.tup [], []⟩, ⟨.tup [], []⟩, ⟨.d (.bool false), []⟩, ⟨.d (.bool false), []⟩] (by kernel_rfl) ?_
                    refine RunAt.done (by kernel_rfl) ?_
                    refine kS_nrm ?_
                    refine Runs.ret ?_
                    obtain rfl := Option.some.inj h
                    exact ⟨Out.ret_ne, (by kernel_rfl)⟩
                | false =>
                  replace h := ite_f hb_13 h
                  refine RunAt.chunk 22 [⟨.tup [], []⟩, ⟨.tup [], []⟩, ⟨.tup [], []⟩, ⟨.tup [], []⟩, ⟨.tup [], []⟩, ⟨.d (.bool false), []⟩, ⟨.d (.bool false), []⟩, ⟨.tup [], []⟩, ⟨.tup [], []⟩, ⟨.tup [], []⟩, ⟨.tup [], []⟩, ⟨.tup [], []⟩, ⟨.tup [], []⟩, ⟨.tup [], []⟩, ⟨.d (.bool false), []⟩, ⟨.d (.bool false), []⟩, ⟨.tup [], []⟩, ⟨.tup [], []⟩, ⟨.tup [], []⟩, ⟨.tup [], []⟩, ⟨.d (.bool false), []⟩, ⟨.d (.bool false), []⟩] (by kernel_rfl) ?_
                  refine RunAt.done (by kernel_rfl) ?_
                  refine kS_nrm ?_
                  refine Runs.ret ?_
                  obtain rfl := Option.some.inj h
                  exact ⟨Out.ret_ne, (by kernel_rfl)⟩
              | false =>
                replace h := ite_f hb_12 h
                refine RunAt.chunk 29 [⟨.tup [], []⟩, ⟨.tup [], []⟩, ⟨.tup [], []⟩, ⟨.tup [], []⟩, ⟨.tup [], []⟩, ⟨.d (.bool false), []⟩, ⟨.d (.bool false), []⟩, ⟨.tup [], []⟩, ⟨.tup [], []⟩, ⟨.tup [], []⟩, ⟨.tup [], []⟩, ⟨.tup [], []⟩, ⟨.d (.bool false), []⟩, ⟨.d (.bool false), []⟩, ⟨.tup [], []⟩, ⟨.tup [], []⟩, ⟨.tup [], []⟩, ⟨.tup [], []⟩, ⟨.tup [], []⟩, ⟨.tup [], []⟩, ⟨.tup [], []⟩, ⟨.d (.bool false), []⟩, ⟨.d (.bool false), []⟩, ⟨.tup [], []⟩, ⟨.tup [], []⟩, ⟨.tup [], []⟩, ⟨.tup [], []⟩, ⟨.d (.bool false), []⟩, ⟨.d (.bool false), []⟩] (by kernel_rfl) ?_
                refine RunAt.done (by kernel_rfl) ?_
                refine kS_nrm ?_
                refine Runs.ret ?_
                obtain rfl := Option.some.inj h
                exact ⟨Out.ret_ne, (by kernel_rfl)⟩
            | false =>
              replace h := ite_f hb_11 h
              refine RunAt.chunk 33 [⟨.tup [], []⟩, ⟨.tup [], []⟩, ⟨.d (.bool false), []⟩, ⟨.d (.bool false), []⟩, ⟨.tup [], []⟩, ⟨.tup [], []⟩, ⟨.tup [], []⟩, ⟨.tup [], []⟩, ⟨.tup [], []⟩, ⟨.d (.bool false), []⟩, ⟨.d (.bool false), []⟩, ⟨.tup [], []⟩, ⟨.tup [], []⟩, ⟨.tup [], []⟩, ⟨.tup [], []⟩, ⟨.tup [], []⟩, ⟨.d (.bool false), []⟩, ⟨.d (.bool false), []⟩, ⟨.tup [], []⟩, ⟨.tup [], []⟩, ⟨.tup [], []⟩, ⟨.tup [], []⟩, ⟨.tup [], []⟩, ⟨.tup [], []⟩, ⟨.tup [], []⟩, ⟨.d (.bool false), []⟩, ⟨.d (.bool false), []⟩, ⟨.tup [], []⟩, ⟨.tup [], []⟩, ⟨.tup [], []⟩, ⟨.tup [], []⟩, ⟨.d (.bool false), []⟩, ⟨.d (.bool false), []⟩] (by kernel_rfl) ?_
              refine RunAt.done (by kernel_rfl) ?_
              refine kS_nrm ?_
              refine Runs.ret ?_
              obtain rfl := Option.some.inj h
              exact ⟨Out.ret_ne, (by kernel_rfl)⟩
          | false =>
            replace h := ite_f hb_10 h
            refine RunAt.chunk 38 [⟨.tup [], []⟩, ⟨.tup [], []⟩, ⟨.tup [], []⟩, ⟨.d (.bool false), []⟩, ⟨.d (.bool false), []⟩, ⟨.tup [], []⟩, ⟨.tup [], []⟩, ⟨.d (.bool false), []⟩, ⟨.d (.bool false), []⟩, ⟨.tup [], []⟩, ⟨.tup [], []⟩, ⟨.tup [], []⟩, ⟨.tup [], []⟩, ⟨.tup [], []⟩, ⟨.d (.bool false), []⟩, ⟨.d (.bool false), []⟩, ⟨.tup [], []⟩, ⟨.tup [], []⟩, ⟨.tup [], []⟩, ⟨.tup [], []⟩, ⟨.tup [], []⟩, ⟨.d (.bool false), []⟩, ⟨.d (.bool false), []⟩, ⟨.tup [], []⟩, ⟨.tup [], []⟩, ⟨.tup [], []⟩, ⟨.tup [], []⟩, ⟨.tup [], []⟩, ⟨.tup [], []⟩, ⟨.tup [], []⟩, ⟨.d (.bool false), []⟩, ⟨.d (.bool false), []⟩, ⟨.tup [], []⟩, ⟨.tup [], []⟩, ⟨.tup [], []⟩, ⟨.tup [], []⟩, ⟨.d (.bool false), []⟩, ⟨.d (.bool false), []⟩] (by kernel_rfl) ?_
            refine RunAt.done (by kernel_rfl) ?_
            refine kS_nrm ?_
            refine Runs.ret ?_
            obtain rfl := Option.some.inj h
            exact ⟨Out.ret_ne, (by kernel_rfl)⟩
theorem hansomlaw23_DataBack_j17_ok (d_ : Data) (odd_ : Int) (x5_0 : Int) (x5_1 : Int) (x5_2 : (List Int)) (r : Bool) (h : hansomlaw23_DataBack_j17 x5_0 x5_1 x5_2 = some r) : Runs L F7b17 (hansomlaw23_DataBack_h17 x5_0 x5_1 x5_2) (hansomlaw23_DataBack_Q d_ odd_ r) := by
  unfold hansomlaw23_DataBack_j17 at h
  refine Runs.seq ?_
  refine Runs.ops ?_
  refine RunAt.chunk 2 [⟨.ptr [5] 0 2, []⟩, ⟨.d (.sl (List.map (D.int .u8) x5_2)), []⟩] (by kernel_rfl) ?_
  refine RunAt.cut (some 43) .lenL [] none [.d (.sl (List.map (D.int .u8) x5_2))] (.d (.int .i64 (x5_2.length : Int))) [] (by kernel_rfl) (by kernel_rfl) (by kernel_rfl) (cut_len _) ?_
  refine RunAt.chunk 1 [⟨.d (.int .i64 (x5_2.length : Int)), []⟩] (by kernel_rfl) ?_
  refine RunAt.done (by kernel_rfl) ?_
  refine kS_nrm ?_
  refine Runs.seq ?_
  refine Runs.ops ?_
  refine RunAt.chunk 4 [⟨.ptr [5] 0 0, []⟩, ⟨.d (.int .i64 x5_0), []⟩, ⟨.d (.bool (decide (x5_0 ≥ 1))), []⟩, ⟨.d (.bool (decide (x5_0 ≥ 1))), []⟩] (by kernel_rfl) ?_
  cases hb_2 : ((decide (x5_0 ≥ 1)) : Bool) with
  | true =>
    replace h := ite_t hb_2 h
    refine RunAt.chunk 5 [⟨.ptr [5] 0 0, []⟩, ⟨.d (.int .i64 x5_0), []⟩, ⟨.d (.bool (decide (x5_0 ≤ 32767))), []⟩, ⟨.d (.bool (decide (x5_0 ≤ 32767))), []⟩, ⟨.d (.bool (decide (x5_0 ≤ 32767))), []⟩] (by kernel_rfl) ?_
    cases hb_3 : ((decide (x5_0 ≤ 32767)) : Bool) with
    | true =>
      replace h := ite_t hb_3 h
      refine RunAt.chunk 4 [⟨.d (.int .i64 (x5_2.length : Int)), []⟩, ⟨.d (.bool (decide ((x5_2.length : Int) ≥ 1))), []⟩, ⟨.d (.bool (decide ((x5_2.length : Int) ≥ 1))), []⟩, ⟨.d (.bool (decide ((x5_2.length : Int) ≥ 1))), []⟩] (by kernel_rfl) ?_
      cases hb_4 : ((decide ((x5_2.length : Int) ≥ 1)) : Bool) with
      | true =>
        replace h := ite_t hb_4 h
        refine RunAt.chunk 4 [⟨.d (.int .i64 (x5_2.length : Int)), []⟩, ⟨.d (.bool (decide ((x5_2.length : Int) ≤ 1024))), []⟩, ⟨.d (.bool (decide ((x5_2.length : Int) ≤ 1024))), []⟩, ⟨.d (.bool (decide ((x5_2.length : Int) ≤ 1024))), []⟩] (by kernel_rfl) ?_
        cases hb_5 : ((decide ((x5_2.length : Int) ≤ 1024)) : Bool) with
        | true =>
          replace h := ite_t hb_5 h
          refine RunAt.chunk 8 [⟨.ptr [5] 0 1, []⟩, ⟨.d (.int .u16 x5_1), []⟩, ⟨.d (.int .i64 (IntKind.wrap .i64 x5_1)), []⟩, ⟨.d (.int .i64 (x5_2.length : Int)), []⟩, ⟨.d (.int .i64 (IntKind.wrap .i64 ((IntKind.wrap .i64 x5_1) + (x5_2.length : Int)))), []⟩, ⟨.d (.bool (decide ((IntKind.wrap .i64 ((IntKind.wrap .i64 x5_1) + (x5_2.length : Int))) ≤ 65536))), []⟩, ⟨.d (.bool (decide ((IntKind.wrap .i64 ((IntKind.wrap .i64 x5_1) + (x5_2.length : Int))) ≤ 65536))), []⟩, ⟨.d (.bool (decide ((IntKind.wrap .i64 ((IntKind.wrap .i64 x5_1) + (x5_2.length : Int))) ≤ 65536))), []⟩] (by kernel_rfl) ?_
          refine RunAt.done (by kernel_rfl) ?_
          refine kS_nrm ?_
          refine Runs.canon (hansomlaw23_DataBack_h21 x5_0 x5_1 x5_2 (decide ((IntKind.wrap .i64 ((IntKind.wrap .i64 x5_1) + (x5_2.length : Int))) ≤ 65536))) (Canon.same (by kernel_rfl) (Canon.nil (by kernel_rfl))) ?_
          exact hansomlaw23_DataBack_j21_ok d_ odd_ x5_0 x5_1 x5_2 (decide ((IntKind.wrap .i64 ((IntKind.wrap .i64 x5_1) + (x5_2.length : Int))) ≤ 65536)) r h
        | false =>
          replace h := ite_f hb_5 h
          refine RunAt.chunk 8 [⟨.tup [], []⟩, ⟨.tup [], []⟩, ⟨.tup [], []⟩, ⟨.tup [], []⟩, ⟨.tup [], []⟩, ⟨.tup [], []⟩, ⟨.d (.bool false), []⟩, ⟨.d (.bool false), []⟩] (by kernel_rfl) ?_
          refine RunAt.done (by kernel_rfl) ?_
          refine kS_nrm ?_
          refine Runs.canon (hansomlaw23_DataBack_h21 x5_0 x5_1 x5_2 false) (Canon.same (by kernel_rfl) (Canon.nil (by kernel_rfl))) ?_
          exact hansomlaw23_DataBack_j21_ok d_ odd_ x5_0 x5_1 x5_2 false r h
      | false =>
        replace h := ite_f hb_4 h
        refine RunAt.chunk 12 [⟨.tup [], []⟩, ⟨.tup [], []⟩, ⟨.d (.bool false), []⟩, ⟨.d (.bool false), []⟩, ⟨.tup [], []⟩, ⟨.tup [], []⟩, ⟨.tup [], []⟩, ⟨.tup [], []⟩, ⟨.tup [], []⟩, ⟨.tup [], []⟩, ⟨.d (.bool false), []⟩, ⟨.d (.bool false), []⟩] (by kernel_rfl) ?_
        refine RunAt.done (by kernel_rfl) ?_
        refine kS_nrm ?_
        refine Runs.canon (hansomlaw23_DataBack_h21 x5_0 x5_1 x5_2 false) (Canon.same (by kernel_rfl) (Canon.nil (by kernel_rfl))) ?_
        exact hansomlaw23_DataBack_j21_ok d_ odd_ x5_0 x5_1 x5_2 false r h
    | false =>
      replace h := ite_f hb_3 h
      refine RunAt.chunk 16 [⟨.tup [], []⟩, ⟨.tup [], []⟩, ⟨.d (.bool false), []⟩, ⟨.d (.bool false), []⟩, ⟨.tup [], []⟩, ⟨.tup [], []⟩, ⟨.d (.bool false), []⟩, ⟨.d (.bool false), []⟩, ⟨.tup [], []⟩, ⟨.tup [], []⟩, ⟨.tup [], []⟩, ⟨.tup [], []⟩, ⟨.tup [], []⟩, ⟨.tup [], []⟩, ⟨.d (.bool false), []⟩, ⟨.d (.bool false), []⟩] (by kernel_rfl) ?_
      refine RunAt.done (by kernel_rfl) ?_
      refine kS_nrm ?_
      refine Runs.canon (hansomlaw23_DataBack_h21 x5_0 x5_1 x5_2 false) (Canon.same (by kernel_rfl) (Canon.nil (by kernel_rfl))) ?_
      exact hansomlaw23_DataBack_j21_ok d_ odd_ x5_0 x5_1 x5_2 false r h
  | false =>
    replace h := ite_f hb_2 h
    refine RunAt.chunk 21 [⟨.tup [], []⟩, ⟨.tup [], []⟩, ⟨.tup [], []⟩, ⟨.d (.bool false), []⟩, ⟨.d (.bool false), []⟩, ⟨.tup [], []⟩, ⟨.tup [], []⟩, ⟨.d (.bool false), []⟩, ⟨.d (.bool false), []⟩, ⟨.tup [], []⟩, ⟨.tup [], []⟩, ⟨.d (.bool false), []⟩, ⟨.d (.bool false), []⟩, ⟨.tup [], []⟩, ⟨.tup [], []⟩, ⟨.tup [], []⟩, ⟨.tup [], []⟩, ⟨.tup [], []⟩, ⟨.tup [], []⟩, ⟨.d (.bool false), []⟩, ⟨.d (.bool false), []⟩] (by kernel_rfl) ?_
    refine RunAt.done (by kernel_rfl) ?_
    refine kS_nrm ?_
    refine Runs.canon (hansomlaw23_DataBack_h21 x5_0 x5_1 x5_2 false) (Canon.same (by kernel_rfl) (Canon.nil (by kernel_rfl))) ?_
    exact hansomlaw23_DataBack_j21_ok d_ odd_ x5_0 x5_1 x5_2 false r h
theorem hansomlaw23_DataBack_ok (d_ : Data) (odd_ : Int) (r : Bool) (h : hansomlaw23_DataBack d_ odd_ = some r) : Runs L F7.body ⟨tmOf [.d (Data.d d_), .d (.int .i64 odd_)] 0, updW (fun _ => none) []⟩ (hansomlaw23_DataBack_Q d_ odd_ r) := by
  unfold hansomlaw23_DataBack at h
  refine Runs.seq ?_
  refine Runs.ops ?_
  refine RunAt.chunk 2 [⟨.ptr [2] 0 0, [([2], some (.cells [.d (.int .i64 d_.Seg), .d (.int .u16 d_.Off), .d (.sl (List.map (D.int .u8) d_.Bytes)), .d (.sl (List.map Fixup.d d_.Fixups))] 0))]⟩, ⟨.d (.bool false), []⟩] (by kernel_rfl) ?_
  refine RunAt.done (by kernel_rfl) ?_
  refine kS_nrm ?_
  refine Runs.seq ?_
  refine Runs.ops ?_
  refine RunAt.chunk 10 [⟨.ptr [2] 0 0, []⟩, ⟨.d (.int .i64 d_.Seg), []⟩, ⟨.d (.int .i64 (bitsOp .and .i64 d_.Seg 32767)), []⟩, ⟨.d (.int .i64 (bitsOp .or .i64 (bitsOp .and .i64 d_.Seg 32767) 1)), []⟩, ⟨.ptr [2] 0 1, []⟩, ⟨.d (.int .u16 d_.Off), []⟩, ⟨.ptr [2] 0 2, []⟩, ⟨.d (.sl (List.map (D.int .u8) d_.Bytes)), []⟩, ⟨.ptr [2] 0 2, []⟩, ⟨.d (.sl (List.map (D.int .u8) d_.Bytes)), []⟩] (by kernel_rfl) ?_
  refine RunAt.cut (some 22) .lenL [] none [.d (.sl (List.map (D.int .u8) d_.Bytes))] (.d (.int .i64 (d_.Bytes.length : Int))) [] (by kernel_rfl) (by kernel_rfl) (by kernel_rfl) (cut_len _) ?_
  refine RunAt.chunk 1 [⟨.d (.int .i64 (mnI (d_.Bytes.length : Int) 60)), []⟩] (by kernel_rfl) ?_
  obtain ⟨z_1, hz_1, h⟩ := bind_s h
  refine RunAt.cut (some 24) (.subsl 1 false true false) [] none [.d (.sl (List.map (D.int .u8) d_.Bytes)), .d (.int .i64 (mnI (d_.Bytes.length : Int) 60))] (.d (.sl (List.map (D.int .u8) z_1))) [] (by kernel_rfl) (by kernel_rfl) (by kernel_rfl) (cut_slFT hz_1 (fun _ => rfl)) ?_
  refine RunAt.chunk 3 [⟨.mix [.d (.int .i64 (bitsOp .or .i64 (bitsOp .and .i64 d_.Seg 32767) 1)), .d (.int .u16 d_.Off), .d (.sl (List.map (D.int .u8) z_1)), .nils], []⟩, ⟨.ptr [5] 0 0, [([5], some (.cells [.d (.int .i64 0), .d (.int .u16 0), .nils, .nils] 0))]⟩, ⟨.tup [], [([5], some (.cells [.d (.int .i64 (bitsOp .or .i64 (bitsOp .and .i64 d_.Seg 32767) 1)), .d (.int .u16 d_.Off), .d (.sl (List.map (D.int .u8) z_1)), .nils] 0))]⟩] (by kernel_rfl) ?_
  refine RunAt.done (by kernel_rfl) ?_
  refine kS_nrm ?_
  refine Runs.seq ?_
  refine Runs.seq ?_
  refine Runs.ops ?_
  refine RunAt.chunk 2 [⟨.d (.int .i64 odd_), []⟩, ⟨.d (.int .i64 (bitsOp .and .i64 odd_ 7)), []⟩] (by kernel_rfl) ?_
  refine RunAt.done (by kernel_rfl) ?_
  refine kS_nrm ?_
  refine Runs.block ?_
  refine Runs.seq ?_
  refine Runs.ops ?_
  refine RunAt.chunk 2 [⟨.d (.bool ((bitsOp .and .i64 odd_ 7) == 0)), []⟩, ⟨.d (.bool ((bitsOp .and .i64 odd_ 7) == 0)), []⟩] (by kernel_rfl) ?_
  refine RunAt.done (by kernel_rfl) ?_
  refine kS_nrm ?_
  cases hb_1 : (((bitsOp .and .i64 odd_ 7) == 0) : Bool) with
  | true =>
    replace h := ite_t hb_1 h
    refine Runs.cond_t (by kernel_rfl) ?_
    refine Runs.ops ?_
    refine RunAt.chunk 4 [⟨.ptr [2] 0 0, []⟩, ⟨.d (.int .i64 d_.Seg), []⟩, ⟨.ptr [5] 0 0, []⟩, ⟨.tup [], [([5], some (.cells [.d (.int .i64 d_.Seg), .d (.int .u16 d_.Off), .d (.sl (List.map (D.int .u8) z_1)), .nils] 0))]⟩] (by kernel_rfl) ?_
    refine RunAt.done (by kernel_rfl) ?_
    refine kB_nrm ?_
    refine kS_nrm ?_
    refine Runs.canon (hansomlaw23_DataBack_h17 d_.Seg d_.Off z_1) (Canon.same (by kernel_rfl) (Canon.nil (by kernel_rfl))) ?_
    exact hansomlaw23_DataBack_j17_ok d_ odd_ d_.Seg d_.Off z_1 r h
  | false =>
    replace h := ite_f hb_1 h
    refine Runs.cond_f (by kernel_rfl) ?_
    refine Runs.seq ?_
    refine Runs.ops ?_
    refine RunAt.chunk 2 [⟨.d (.bool ((bitsOp .and .i64 odd_ 7) == 1)), []⟩, ⟨.d (.bool ((bitsOp .and .i64 odd_ 7) == 1)), []⟩] (by kernel_rfl) ?_
    refine RunAt.done (by kernel_rfl) ?_
    refine kS_nrm ?_
    cases hb_16 : (((bitsOp .and .i64 odd_ 7) == 1) : Bool) with
    | true =>
      replace h := ite_t hb_16 h
      refine Runs.cond_t (by kernel_rfl) ?_
      refine Runs.ops ?_
      refine RunAt.chunk 4 [⟨.d (.int .i64 odd_), []⟩, ⟨.d (.int .i64 (shrI .i64 odd_ 3)), []⟩, ⟨.d (.int .i64 (bitsOp .and .i64 (shrI .i64 odd_ 3) 7)), []⟩, ⟨.d (.int .i64 (IntKind.wrap .i64 (1020 + (bitsOp .and .i64 (shrI .i64 odd_ 3) 7)))), []⟩] (by kernel_rfl) ?_
      obtain ⟨z_4, hz_4, h⟩ := bind_s h
      refine RunAt.cut (some 39) (.mkslice (.int .u8 0) 1) [] none [.d (.int .i64 (IntKind.wrap .i64 (1020 + (bitsOp .and .i64 (shrI .i64 odd_ 3) 7)))), .d (.int .i64 (IntKind.wrap .i64 (1020 + (bitsOp .and .i64 (shrI .i64 odd_ 3) 7))))] (.ref [39] 0 0 (List.map (D.int .u8) z_4).length 1) [([39], some (.arr (List.map (D.int .u8) z_4) 0 false))] (by kernel_rfl) (by kernel_rfl) (by kernel_rfl) (cut_mk (e := (D.int .u8)) (z := 0) hz_4 rfl (by kernel_rfl)) ?_
      refine RunAt.chunk 2 [⟨.ptr [5] 0 2, []⟩, ⟨.tup [], [([5], some (.cells [.d (.int .i64 (bitsOp .or .i64 (bitsOp .and .i64 d_.Seg 32767) 1)), .d (.int .u16 d_.Off), .ref [39] 0 0 (List.map (D.int .u8) z_4).length 1, .nils] 0))]⟩] (by kernel_rfl) ?_
      refine RunAt.done (by kernel_rfl) ?_
      refine kB_nrm ?_
      refine kS_nrm ?_
      refine Runs.canon (hansomlaw23_DataBack_h17 (bitsOp .or .i64 (bitsOp .and .i64 d_.Seg 32767) 1) d_.Off z_4) (Canon.cons (frzB_ref (e := (D.int .u8)) (l := z_4) (id := [5]) (id' := [39]) (v := 0) (n := 1) (fz := false) (ver := 0) (cs := [.d (.int .i64 (bitsOp .or .i64 (bitsOp .and .i64 d_.Seg 32767) 1)), .d (.int .u16 d_.Off), .ref [39] 0 0 (List.map (D.int .u8) z_4).length 1, .nils]) (cs' := [.d (.int .i64 (bitsOp .or .i64 (bitsOp .and .i64 d_.Seg 32767) 1)), .d (.int .u16 d_.Off), .d (.sl (List.map (D.int .u8) z_4)), .nils]) (by kernel_rfl) (by kernel_rfl) (by kernel_rfl) (by decide) (by kernel_rfl) rfl) (Canon.nil (by kernel_rfl))) ?_
      exact hansomlaw23_DataBack_j17_ok d_ odd_ (bitsOp .or .i64 (bitsOp .and .i64 d_.Seg 32767) 1) d_.Off z_4 r h
    | false =>
      replace h := ite_f hb_16 h
      refine Runs.cond_f (by kernel_rfl) ?_
      refine Runs.skip ?_
      refine kB_nrm ?_
      refine kS_nrm ?_
      refine Runs.canon (hansomlaw23_DataBack_h17 (bitsOp .or .i64 (bitsOp .and .i64 d_.Seg 32767) 1) d_.Off z_1) (Canon.same (by kernel_rfl) (Canon.nil (by kernel_rfl))) ?_
      exact hansomlaw23_DataBack_j17_ok d_ odd_ (bitsOp .or .i64 (bitsOp .and .i64 d_.Seg 32767) 1) d_.Off z_1 r h
theorem hansomlaw23_DataBack_L (d_ : Data) (odd_ : Int) (r : Bool) (h : hansomlaw23_DataBack d_ odd_ = some r) : L 7 [.d (Data.d d_), .d (.int .i64 odd_)] = some (.d (.bool r), [.d (Data.d d_), .d (.int .i64 odd_)]) := by
  obtain ⟨p, ⟨hne, hf⟩, hr⟩ := hansomlaw23_DataBack_ok d_ odd_ r h
  obtain ⟨k, hk⟩ := run_of (F := F7) (args := [.d (Data.d d_), .d (.int .i64 odd_)]) (ap := [.d (Data.d d_), .d (.int .i64 odd_)]) (bx0 := updW (fun _ => none) []) rfl rfl (by kernel_rfl) ⟨p, ⟨hne, hf⟩, hr⟩
  exact lim_run (k := k) rfl hk
def hansomlaw23_DataAny_Q (b_ : (List Int)) (r : Bool) (p : Out × St) : Prop := (∀ i, p.1 ≠ .exit i) ∧ finF F8 [.d (.sl (List.map (D.int .u8) b_))] p.2 = some (.d (.bool r), [.d (.sl (List.map (D.int .u8) b_))])
theorem hansomlaw23_DataAny_ok (b_ : (List Int)) (r : Bool) (h : hansomlaw23_DataAny b_ = some r) : Runs L F8.body ⟨tmOf [.d (.sl (List.map (D.int .u8) b_))] 0, updW (fun _ => none) []⟩ (hansomlaw23_DataAny_Q b_ r) := by
  unfold hansomlaw23_DataAny at h
  refine Runs.seq ?_
  refine Runs.ops ?_
  refine RunAt.chunk 1 [⟨.d (.bool false), []⟩] (by kernel_rfl) ?_
  refine RunAt.done (by kernel_rfl) ?_
  refine kS_nrm ?_
  refine Runs.seq ?_
  refine Runs.ops ?_
  refine RunAt.chunk 2 [⟨.d (.sl (List.map (D.int .u8) b_)), []⟩, ⟨.d (.sl (List.map (D.int .u8) b_)), []⟩] (by kernel_rfl) ?_
  refine RunAt.cut (some 8) .lenL [] none [.d (.sl (List.map (D.int .u8) b_))] (.d (.int .i64 (b_.length : Int))) [] (by kernel_rfl) (by kernel_rfl) (by kernel_rfl) (cut_len _) ?_
  refine RunAt.chunk 1 [⟨.d (.int .i64 (mnI (b_.length : Int) 40)), []⟩] (by kernel_rfl) ?_
  obtain ⟨z_1, hz_1, h⟩ := bind_s h
  refine RunAt.cut (some 10) (.subsl 1 false true false) [] none [.d (.sl (List.map (D.int .u8) b_)), .d (.int .i64 (mnI (b_.length : Int) 40))] (.d (.sl (List.map (D.int .u8) z_1))) [] (by kernel_rfl) (by kernel_rfl) (by kernel_rfl) (cut_slFT hz_1 (fun _ => rfl)) ?_
  refine RunAt.chunk 1 [⟨.d (.sl (List.map (D.int .u8) z_1)), []⟩] (by kernel_rfl) ?_
  refine RunAt.done (by kernel_rfl) ?_
  refine kS_nrm ?_
  refine Runs.seq ?_
  refine Runs.ops ?_
  refine RunAt.chunk 1 [⟨.d (.sl (List.map (D.int .u8) z_1)), []⟩] (by kernel_rfl) ?_
  obtain ⟨r_1, hr_1, h⟩ := bind_s h
  have hc_1 := data_Get_L z_1 r_1 hr_1
  refine RunAt.cut (some 13) (.callf 44) [] none [.d (.sl (List.map (D.int .u8) z_1))] (.tup [.d (Data.d r_1.1), .d (.int .i64 r_1.2)]) [] (by kernel_rfl) (by kernel_rfl) (by kernel_rfl) (cut_call (call_of (ws := []) (us := []) (by kernel_rfl) (by kernel_rfl) hc_1 (by kernel_rfl) (by kernel_rfl))) ?_
  refine RunAt.chunk 6 [⟨.tup [.d (Data.d r_1.1), .d (.int .i64 r_1.2)], []⟩, ⟨.d (Data.d r_1.1), []⟩, ⟨.d (.int .i64 r_1.2), []⟩, ⟨.ptr [4] 0 0, [([4], some (.cells [.d (.int .i64 0), .d (.int .u16 0), .nils, .nils] 0))]⟩, ⟨.tup [], [([4], some (.cells [.d (.int .i64 r_1.1.Seg), .d (.int .u16 r_1.1.Off), .d (.sl (List.map (D.int .u8) r_1.1.Bytes)), .d (.sl (List.map Fixup.d r_1.1.Fixups))] 0))]⟩, ⟨.d (.int .i64 r_1.2), []⟩] (by kernel_rfl) ?_
  refine RunAt.done (by kernel_rfl) ?_
  refine kS_nrm ?_
  refine Runs.seq ?_
  refine Runs.seq ?_
  refine Runs.ops ?_
  refine RunAt.chunk 2 [⟨.d (.int .i64 r_1.2), []⟩, ⟨.d (.bool (r_1.2 != 0)), []⟩] (by kernel_rfl) ?_
  refine RunAt.done (by kernel_rfl) ?_
  refine kS_nrm ?_
  cases hb_1 : ((r_1.2 != 0) : Bool) with
  | true =>
    replace h := ite_t hb_1 h
    refine Runs.cond_t (by kernel_rfl) ?_
    refine Runs.seq ?_
    refine Runs.ops ?_
    obtain ⟨r_2, hr_2, h⟩ := bind_s h
    have hc_2 := hansomlaw23_awake_L r_2 hr_2
    refine RunAt.cut (some 18) (.callf 42) [] none [] (.d (.bool r_2)) [] (by kernel_rfl) (by kernel_rfl) (by kernel_rfl) (cut_call (call_of (ws := []) (us := []) (by kernel_rfl) (by kernel_rfl) hc_2 (by kernel_rfl) (by kernel_rfl))) ?_
    refine RunAt.chunk 1 [⟨.d (.bool r_2), []⟩] (by kernel_rfl) ?_
    cases hb_2 : (r_2 : Bool) with
    | true =>
      replace h := ite_t hb_2 h
      refine RunAt.chunk 2 [⟨.ptr [4] 0 2, []⟩, ⟨.d (.sl (List.map (D.int .u8) r_1.1.Bytes)), []⟩] (by kernel_rfl) ?_
      refine RunAt.cut (some 22) .lenL [] none [.d (.sl (List.map (D.int .u8) r_1.1.Bytes))] (.d (.int .i64 (r_1.1.Bytes.length : Int))) [] (by kernel_rfl) (by kernel_rfl) (by kernel_rfl) (cut_len _) ?_
      refine RunAt.chunk 3 [⟨.d (.bool ((r_1.1.Bytes.length : Int) == 0)), []⟩, ⟨.d (.bool ((r_1.1.Bytes.length : Int) == 0)), []⟩, ⟨.d (.bool ((r_1.1.Bytes.length : Int) == 0)), []⟩] (by kernel_rfl) ?_
      cases hb_3 : (((r_1.1.Bytes.length : Int) == 0) : Bool) with
      | true =>
        replace h := ite_t hb_3 h
        refine RunAt.chunk 3 [⟨.d (.int .i64 r_1.2), []⟩, ⟨.d (.bool (r_1.2 == 2)), []⟩, ⟨.d (.bool (r_1.2 == 2)), []⟩] (by kernel_rfl) ?_
        cases hb_4 : ((r_1.2 == 2) : Bool) with
        | true =>
          replace h := ite_t hb_4 h
          refine RunAt.chunk 5 [⟨.tup [], []⟩, ⟨.tup [], []⟩, ⟨.d (.bool true), []⟩, ⟨.d (.bool true), []⟩, ⟨.d (.bool true), []⟩] (by kernel_rfl) ?_
          refine RunAt.done (by kernel_rfl) ?_
          refine kS_nrm ?_
          refine Runs.ret ?_
          refine kS_ret ?_
          obtain rfl := Option.some.inj h
          exact ⟨Out.ret_ne, (by kernel_rfl)⟩
        | false =>
          replace h := ite_f hb_4 h
          refine RunAt.chunk 5 [⟨.d (.int .i64 r_1.2), []⟩, ⟨.d (.bool (r_1.2 == 3)), []⟩, ⟨.d (.bool (r_1.2 == 3)), []⟩, ⟨.d (.bool (r_1.2 == 3)), []⟩, ⟨.d (.bool (r_1.2 == 3)), []⟩] (by kernel_rfl) ?_
          refine RunAt.done (by kernel_rfl) ?_
          refine kS_nrm ?_
          refine Runs.ret ?_
          refine kS_ret ?_
          obtain rfl := Option.some.inj h
          exact ⟨Out.ret_ne, (by kernel_rfl)⟩
      | false =>
        replace h := ite_f hb_3 h
        refine RunAt.chunk 8 [⟨.tup [], []⟩, ⟨.tup [], []⟩, ⟨.tup [], []⟩, ⟨.tup [], []⟩, ⟨.tup [], []⟩, ⟨.tup [], []⟩, ⟨.d (.bool false), []⟩, ⟨.d (.bool false), []⟩] (by kernel_rfl) ?_
        refine RunAt.done (by kernel_rfl) ?_
        refine kS_nrm ?_
        refine Runs.ret ?_
        refine kS_ret ?_
        obtain rfl := Option.some.inj h
        exact ⟨Out.ret_ne, (by kernel_rfl)⟩
    | false =>
      replace h := ite_f hb_2 h
      refine RunAt.chunk 14 [⟨.tup [], []⟩, ⟨.tup [], []⟩, ⟨.tup [], []⟩, ⟨.tup [], []⟩, ⟨.d (.bool false), []⟩, ⟨.d (.bool false), []⟩, ⟨.tup [], []⟩, ⟨.tup [], []⟩, ⟨.tup [], []⟩, ⟨.tup [], []⟩, ⟨.tup [], []⟩, ⟨.tup [], []⟩, ⟨.d (.bool false), []⟩, ⟨.d (.bool false), []⟩] (by kernel_rfl) ?_
      refine RunAt.done (by kernel_rfl) ?_
      refine kS_nrm ?_
      refine Runs.ret ?_
      refine kS_ret ?_
      obtain rfl := Option.some.inj h
      exact ⟨Out.ret_ne, (by kernel_rfl)⟩
  | false =>
    replace h := ite_f hb_1 h
    refine Runs.cond_f (by kernel_rfl) ?_
    refine Runs.skip ?_
    refine kS_nrm ?_
    refine Runs.seq ?_
    refine Runs.ops ?_
    obtain ⟨r_3, hr_3, h⟩ := bind_s h
    have hc_3 := hansomlaw23_awake_L r_3 hr_3
    refine RunAt.cut (some 33) (.callf 42) [] none [] (.d (.bool r_3)) [] (by kernel_rfl) (by kernel_rfl) (by kernel_rfl) (cut_call (call_of (ws := []) (us := []) (by kernel_rfl) (by kernel_rfl) hc_3 (by kernel_rfl) (by kernel_rfl))) ?_
    refine RunAt.chunk 1 [⟨.d (.bool r_3), []⟩] (by kernel_rfl) ?_
    cases hb_5 : (r_3 : Bool) with
    | true =>
      replace h := ite_t hb_5 h
      refine RunAt.chunk 1 [⟨.d (Data.d r_1.1), []⟩] (by kernel_rfl) ?_
      obtain ⟨r_4, hr_4, h⟩ := bind_s h
      have hc_4 := data_May_L r_1.1 r_4 hr_4
      refine RunAt.cut (some 36) (.callf 43) [] none [.d (Data.d r_1.1)] (.d (.bool r_4)) [] (by kernel_rfl) (by kernel_rfl) (by kernel_rfl) (cut_call (call_of (ws := []) (us := []) (by kernel_rfl) (by kernel_rfl) hc_4 (by kernel_rfl) (by kernel_rfl))) ?_
      refine RunAt.chunk 2 [⟨.d (.bool r_4), []⟩, ⟨.d (.bool r_4), []⟩] (by kernel_rfl) ?_
      cases hb_6 : (r_4 : Bool) with
      | true =>
        replace h := ite_t hb_6 h
        refine RunAt.chunk 2 [⟨.ptr [4] 0 2, []⟩, ⟨.d (.sl (List.map (D.int .u8) r_1.1.Bytes)), []⟩] (by kernel_rfl) ?_
        refine RunAt.cut (some 41) .lenL [] none [.d (.sl (List.map (D.int .u8) r_1.1.Bytes))] (.d (.int .i64 (r_1.1.Bytes.length : Int))) [] (by kernel_rfl) (by kernel_rfl) (by kernel_rfl) (cut_len _) ?_
        refine RunAt.chunk 1 [⟨.d (.sl (List.map (D.int .u8) z_1)), []⟩] (by kernel_rfl) ?_
        refine RunAt.cut (some 43) .lenL [] none [.d (.sl (List.map (D.int .u8) z_1))] (.d (.int .i64 (z_1.length : Int))) [] (by kernel_rfl) (by kernel_rfl) (by kernel_rfl) (cut_len _) ?_
        refine RunAt.chunk 4 [⟨.d (.int .i64 (IntKind.wrap .i64 ((z_1.length : Int) - 3))), []⟩, ⟨.d (.bool (decide ((r_1.1.Bytes.length : Int) ≤ (IntKind.wrap .i64 ((z_1.length : Int) - 3))))), []⟩, ⟨.d (.bool (decide ((r_1.1.Bytes.length : Int) ≤ (IntKind.wrap .i64 ((z_1.length : Int) - 3))))), []⟩, ⟨.d (.bool (decide ((r_1.1.Bytes.length : Int) ≤ (IntKind.wrap .i64 ((z_1.length : Int) - 3))))), []⟩] (by kernel_rfl) ?_
        refine RunAt.done (by kernel_rfl) ?_
        refine kS_nrm ?_
        refine Runs.ret ?_
        obtain rfl := Option.some.inj h
        exact ⟨Out.ret_ne, (by kernel_rfl)⟩
      | false =>
        replace h := ite_f hb_6 h
        refine RunAt.chunk 9 [⟨.tup [], []⟩, ⟨.tup [], []⟩, ⟨.tup [], []⟩, ⟨.tup [], []⟩, ⟨.tup [], []⟩, ⟨.tup [], []⟩, ⟨.tup [], []⟩, ⟨.d (.bool false), []⟩, ⟨.d (.bool false), []⟩] (by kernel_rfl) ?_
        refine RunAt.done (by kernel_rfl) ?_
        refine kS_nrm ?_
        refine Runs.ret ?_
        obtain rfl := Option.some.inj h
        exact ⟨Out.ret_ne, (by kernel_rfl)⟩
    | false =>
      replace h := ite_f hb_5 h
      refine RunAt.chunk 13 [⟨.tup [], []⟩, ⟨.tup [], []⟩, ⟨.d (.bool false), []⟩, ⟨.d (.bool false), []⟩, ⟨.tup [], []⟩, ⟨.tup [], []⟩, ⟨.tup [], []⟩, ⟨.tup [], []⟩, ⟨.tup [], []⟩, ⟨.tup [], []⟩, ⟨.tup [], []⟩, ⟨.d (.bool false), []⟩, ⟨.d (.bool false), []⟩] (by kernel_rfl) ?_
      refine RunAt.done (by kernel_rfl) ?_
      refine kS_nrm ?_
      refine Runs.ret ?_
      obtain rfl := Option.some.inj h
      exact ⟨Out.ret_ne, (by kernel_rfl)⟩
theorem hansomlaw23_DataAny_L (b_ : (List Int)) (r : Bool) (h : hansomlaw23_DataAny b_ = some r) : L 8 [.d (.sl (List.map (D.int .u8) b_))] = some (.d (.bool r), [.d (.sl (List.map (D.int .u8) b_))]) := by
  obtain ⟨p, ⟨hne, hf⟩, hr⟩ := hansomlaw23_DataAny_ok b_ r h
  obtain ⟨k, hk⟩ := run_of (F := F8) (args := [.d (.sl (List.map (D.int .u8) b_))]) (ap := [.d (.sl (List.map (D.int .u8) b_))]) (bx0 := updW (fun _ => none) []) rfl rfl (by kernel_rfl) ⟨p, ⟨hne, hf⟩, hr⟩
  exact lim_run (k := k) rfl hk
def data_Cut_h4 (out7 : (List Data)) (seg0 : Int) (off1 : Int) (b2 : (List Int)) (v_7 : Nat) : St := ⟨tab [(0, .d (.int .i64 seg0)), (1, .d (.int .u16 off1)), (2, .d (.sl (List.map (D.int .u8) b2))), (7, .ref [7] v_7 0 (List.map Data.d out7).length 4)], tabB [([7], some (.arr (List.map Data.d out7) v_7 false))]⟩
def data_Cut_h6 (out7 : (List Data)) (seg0 : Int) (off1 : Int) (b2 : (List Int)) (v_7 : Nat) : St := ⟨tab [(0, .d (.int .i64 seg0)), (1, .d (.int .u16 off1)), (2, .d (.sl (List.map (D.int .u8) b2))), (7, .ref [7] v_7 0 (List.map Data.d out7).length 4)], tabB [([7], some (.arr (List.map Data.d out7) v_7 false))]⟩
def data_Cut_h21 (out7 : (List Data)) (v_7 : Nat) : St := ⟨tab [(7, .ref [7] v_7 0 (List.map Data.d out7).length 4)], tabB [([7], some (.arr (List.map Data.d out7) v_7 false))]⟩
def data_Cut_Q (seg_ : Int) (off_ : Int) (b_ : (List Int)) (r : (List Data)) (p : Out × St) : Prop := (∀ i, p.1 ≠ .exit i) ∧ finF F53 [.d (.int .i64 seg_), .d (.int .u16 off_), .d (.sl (List.map (D.int .u8) b_))] p.2 = some (.d (.sl (List.map Data.d r)), [.d (.int .i64 seg_), .d (.int .u16 off_), .d (.sl (List.map (D.int .u8) b_))])
def data_Cut_P6 (seg_ : Int) (off_ : Int) (b_ : (List Int)) (seg0 : Int) (e : (List Data)) (p : Out × St) : Prop := p.1 = .exit 0 ∧ ∃ g : Nat, Canon [] [7] [[7]] p.2 (data_Cut_h21 e g)
theorem data_Cut_l6_ok (seg_ : Int) (off_ : Int) (b_ : (List Int)) (out7 : (List Data)) (seg0 : Int) (off1 : Int) (b2 : (List Int)) (v_7 : Nat) (r : (Lp ((List Data) × Int × (List Int)) (List Data))) (h : data_Cut_l6 out7 seg0 off1 b2 = some r) : Runs L F53l6 (data_Cut_h6 out7 seg0 off1 b2 v_7) (LQ [] [0, 1, 2, 7] [[7]] (fun (x : ((List Data) × Int × (List Int))) (g : Nat) => data_Cut_h6 x.1 seg0 x.2.1 x.2.2 g) (data_Cut_P6 seg_ off_ b_ seg0) r) := by
  unfold data_Cut_l6 at h
  refine Runs.seq ?_
  refine Runs.seq ?_
  refine Runs.ops ?_
  refine RunAt.chunk 1 [⟨.d (.sl (List.map (D.int .u8) b2)), []⟩] (by kernel_rfl) ?_
  refine RunAt.cut (some 10) .lenL [] none [.d (.sl (List.map (D.int .u8) b2))] (.d (.int .i64 (b2.length : Int))) [] (by kernel_rfl) (by kernel_rfl) (by kernel_rfl) (cut_len _) ?_
  refine RunAt.chunk 1 [⟨.d (.bool (decide ((b2.length : Int) > 0))), []⟩] (by kernel_rfl) ?_
  refine RunAt.done (by kernel_rfl) ?_
  refine kS_nrm ?_
  cases hb_1 : ((decide ((b2.length : Int) > 0)) : Bool) with
  | true =>
    replace h := ite_t hb_1 h
    refine Runs.cond_t (by kernel_rfl) ?_
    refine Runs.skip ?_
    refine kS_nrm ?_
    refine Runs.block ?_
    refine Runs.seq ?_
    refine Runs.ops ?_
    refine RunAt.chunk 1 [⟨.d (.sl (List.map (D.int .u8) b2)), []⟩] (by kernel_rfl) ?_
    refine RunAt.cut (some 13) .lenL [] none [.d (.sl (List.map (D.int .u8) b2))] (.d (.int .i64 (b2.length : Int))) [] (by kernel_rfl) (by kernel_rfl) (by kernel_rfl) (cut_len _) ?_
    refine RunAt.chunk 2 [⟨.d (.int .i64 (mnI (b2.length : Int) 1024)), []⟩, ⟨.d (.int .i64 (mnI (b2.length : Int) 1024)), []⟩] (by kernel_rfl) ?_
    refine RunAt.done (by kernel_rfl) ?_
    refine kS_nrm ?_
    refine Runs.seq ?_
    refine Runs.ops ?_
    refine RunAt.chunk 5 [⟨.ref [7] v_7 0 (List.map Data.d out7).length 4, []⟩, ⟨.d (.int .i64 seg0), []⟩, ⟨.d (.int .u16 off1), []⟩, ⟨.d (.sl (List.map (D.int .u8) b2)), []⟩, ⟨.d (.int .i64 (mnI (b2.length : Int) 1024)), []⟩] (by kernel_rfl) ?_
    obtain ⟨z_1, hz_1, h⟩ := bind_s h
    refine RunAt.cut (some 20) (.subsl 1 false true false) [] none [.d (.sl (List.map (D.int .u8) b2)), .d (.int .i64 (mnI (b2.length : Int) 1024))] (.d (.sl (List.map (D.int .u8) z_1))) [] (by kernel_rfl) (by kernel_rfl) (by kernel_rfl) (cut_slFT hz_1 (fun _ => rfl)) ?_
    obtain ⟨r_1, hr_1, h⟩ := bind_s h
    have hc_1 := slices_Clone_Lbyte_L z_1 r_1 hr_1
    refine RunAt.cut (some 21) (.callf 70) [] none [.d (.sl (List.map (D.int .u8) z_1))] (.ref [21] 0 0 (List.map (D.int .u8) r_1).length 1) [([21], some (.arr (List.map (D.int .u8) r_1) 0 false))] (by kernel_rfl) (by kernel_rfl) (by kernel_rfl) (cut_call (call_of (ws := []) (us := []) (by kernel_rfl) (gives_cons (ws := []) (give_same (by kernel_rfl)) gives_nil) hc_1 (by kernel_rfl) (by kernel_rfl))) ?_
    refine RunAt.chunk 1 [⟨.mix [.d (.int .i64 seg0), .d (.int .u16 off1), .ref [21] 0 0 (List.map (D.int .u8) r_1).length 1, .nils], []⟩] (by kernel_rfl) ?_
    refine RunAt.cut (some 23) (.bslice (.agg [.int .i64 0, .int .u16 0, .sl [], .sl []]) 1 [0]) [] none [.mix [.d (.int .i64 seg0), .d (.int .u16 off1), .ref [21] 0 0 (List.map (D.int .u8) r_1).length 1, .nils]] (.ref [23] 0 0 (List.map Data.d ([({ Seg := seg0, Off := off1, Bytes := r_1, Fixups := ([] : List Fixup) } : Data)] : List Data)).length 4) [([21], some (.arr (List.map (D.int .u8) r_1) 0 true)), ([23], some (.arr (List.map Data.d ([({ Seg := seg0, Off := off1, Bytes := r_1, Fixups := ([] : List Fixup) } : Data)] : List Data)) 0 false))] (by kernel_rfl) (by kernel_rfl) (by kernel_rfl) (cut_bslice (e := Data.d) (l := ([({ Seg := seg0, Off := off1, Bytes := r_1, Fixups := ([] : List Fixup) } : Data)] : List Data)) (ws := [([21], some (.arr (List.map (D.int .u8) r_1) 0 true))]) (ds := [.agg [.int .i64 seg0, .int .u16 off1, .sl (List.map (D.int .u8) r_1), .sl (List.map Fixup.d ([] : List Fixup))]]) (snapsM_cons (ws := [([21], some (.arr (List.map (D.int .u8) r_1) 0 true))]) (snap_mix (snaps_d (snaps_d (snaps_r (e := (D.int .u8)) (l := r_1) (fz := false) (by kernel_rfl) (by kernel_rfl) (hl := rfl) (snaps_n Fixup.d snaps_nil))))) snapsM_nil) (by kernel_rfl) (by kernel_rfl) (by kernel_rfl) (by kernel_rfl)) ?_
    obtain ⟨z_2, hz_2, h⟩ := bind_s h
    refine RunAt.cut (some 24) (.append 4 64 false) [] none [.ref [7] v_7 0 (List.map Data.d out7).length 4, .ref [23] 0 0 (List.map Data.d ([({ Seg := seg0, Off := off1, Bytes := r_1, Fixups := ([] : List Fixup) } : Data)] : List Data)).length 4] (.ref [7] (v_7 + 1) 0 (List.map Data.d z_2).length 4) [([23], some (.arr (List.map Data.d ([({ Seg := seg0, Off := off1, Bytes := r_1, Fixups := ([] : List Fixup) } : Data)] : List Data)) 0 true)), ([7], some (.arr (List.map Data.d z_2) (v_7 + 1) false))] (by kernel_rfl) (by kernel_rfl) (by kernel_rfl) (cut_appR (e := Data.d) (l := out7) (fz := false) (ws := [([23], some (.arr (List.map Data.d ([({ Seg := seg0, Off := off1, Bytes := r_1, Fixups := ([] : List Fixup) } : Data)] : List Data)) 0 true))]) (ap_ref (e := Data.d) (l := ([({ Seg := seg0, Off := off1, Bytes := r_1, Fixups := ([] : List Fixup) } : Data)] : List Data)) (fz := false) (by kernel_rfl) (by kernel_rfl) rfl) (fun _ => rfl) hz_2 (by kernel_rfl) (by kernel_rfl) rfl) ?_
    refine RunAt.chunk 1 [⟨.ref [7] (v_7 + 1) 0 (List.map Data.d z_2).length 4, []⟩] (by kernel_rfl) ?_
    refine RunAt.done (by kernel_rfl) ?_
    refine kS_nrm ?_
    refine Runs.seq ?_
    refine Runs.ops ?_
    refine RunAt.chunk 5 [⟨.d (.int .u16 off1), []⟩, ⟨.d (.int .i64 (mnI (b2.length : Int) 1024)), []⟩, ⟨.d (.int .u16 (IntKind.wrap .u16 (mnI (b2.length : Int) 1024))), []⟩, ⟨.d (.int .u16 (IntKind.wrap .u16 (off1 + (IntKind.wrap .u16 (mnI (b2.length : Int) 1024))))), []⟩, ⟨.d (.int .u16 (IntKind.wrap .u16 (off1 + (IntKind.wrap .u16 (mnI (b2.length : Int) 1024))))), []⟩] (by kernel_rfl) ?_
    refine RunAt.done (by kernel_rfl) ?_
    refine kS_nrm ?_
    refine Runs.ops ?_
    refine RunAt.chunk 2 [⟨.d (.sl (List.map (D.int .u8) b2)), []⟩, ⟨.d (.int .i64 (mnI (b2.length : Int) 1024)), []⟩] (by kernel_rfl) ?_
    obtain ⟨z_3, hz_3, h⟩ := bind_s h
    refine RunAt.cut (some 31) (.subsl 1 true false false) [] none [.d (.sl (List.map (D.int .u8) b2)), .d (.int .i64 (mnI (b2.length : Int) 1024))] (.d (.sl (List.map (D.int .u8) z_3))) [] (by kernel_rfl) (by kernel_rfl) (by kernel_rfl) (cut_slTF hz_3 (fun _ => rfl)) ?_
    refine RunAt.chunk 1 [⟨.d (.sl (List.map (D.int .u8) z_3)), []⟩] (by kernel_rfl) ?_
    refine RunAt.done (by kernel_rfl) ?_
    refine kB_nrm ?_
    obtain rfl := Option.some.inj h
    exact ⟨rfl, (v_7 + 1), (Canon.nil (by kernel_rfl))⟩
  | false =>
    replace h := ite_f hb_1 h
    refine Runs.cond_f (by kernel_rfl) ?_
    refine Runs.exit ?_
    refine kS_exit ?_
    obtain rfl := Option.some.inj h
    exact ⟨nofun, rfl, v_7, (Canon.nil (by kernel_rfl))⟩
theorem data_Cut_ok (seg_ : Int) (off_ : Int) (b_ : (List Int)) (r : (List Data)) (h : data_Cut seg_ off_ b_ = some r) : Runs L F53.body ⟨tmOf [.d (.int .i64 seg_), .d (.int .u16 off_), .d (.sl (List.map (D.int .u8) b_))] 0, updW (fun _ => none) []⟩ (data_Cut_Q seg_ off_ b_ r) := by
  unfold data_Cut at h
  refine Runs.seq ?_
  refine Runs.ops ?_
  refine RunAt.chunk 1 [⟨.nils, []⟩] (by kernel_rfl) ?_
  refine RunAt.done (by kernel_rfl) ?_
  refine kS_nrm ?_
  refine Runs.seq ?_
  refine Runs.ops ?_
  refine RunAt.chunk 1 [⟨.nils, []⟩] (by kernel_rfl) ?_
  refine RunAt.done (by kernel_rfl) ?_
  refine kS_nrm ?_
  refine Runs.canon (data_Cut_h4 ([] : List Data) seg_ off_ b_ 0) (Canon.cons (own_nil Data.d (v := 0) (by kernel_rfl) (by kernel_rfl)) (Canon.nil (by kernel_rfl))) ?_
  refine Runs.seq ?_
  refine Runs.block ?_
  obtain ⟨e_1, he_1, h⟩ := bind_s h
  refine Runs.loop (fun x : ((List Data) × Int × (List Int)) => data_Cut_l6 x.1 seg_ x.2.1 x.2.2) (fun (x : ((List Data) × Int × (List Int))) (g : Nat) => data_Cut_h6 x.1 seg_ x.2.1 x.2.2 g) (data_Cut_P6 seg_ off_ b_ seg_) (fun x g r hr => data_Cut_l6_ok seg_ off_ b_ x.1 seg_ x.2.1 x.2.2 g r hr) 0 he_1 (Canon.nil (by kernel_rfl)) ?_
  rintro ⟨o, s⟩ hp
  obtain ⟨ho, g_1, hk_1⟩ := hp
  have ho' : o = .exit 0 := ho
  subst ho'
  refine kB_hit ?_
  refine kS_nrm ?_
  refine Runs.canon _ hk_1 ?_
  refine Runs.seq ?_
  refine Runs.ops ?_
  refine RunAt.chunk 2 [⟨.ref [7] g_1 0 (List.map Data.d e_1).length 4, []⟩, ⟨.ref [7] g_1 0 (List.map Data.d e_1).length 4, []⟩] (by kernel_rfl) ?_
  refine RunAt.done (by kernel_rfl) ?_
  refine kS_nrm ?_
  refine Runs.seq ?_
  refine Runs.gcons (frz_ref (e := Data.d) (l := e_1) (id := [7]) (v := g_1) (n := 4) (fz := false) (by kernel_rfl) (by kernel_rfl) rfl) ?_
  refine Runs.gnil ?_
  refine kS_nrm ?_
  refine Runs.ret ?_
  obtain rfl := Option.some.inj h
  exact ⟨Out.ret_ne, (by kernel_rfl)⟩
theorem data_Cut_L (seg_ : Int) (off_ : Int) (b_ : (List Int)) (r : (List Data)) (h : data_Cut seg_ off_ b_ = some r) : L 53 [.d (.int .i64 seg_), .d (.int .u16 off_), .d (.sl (List.map (D.int .u8) b_))] = some (.d (.sl (List.map Data.d r)), [.d (.int .i64 seg_), .d (.int .u16 off_), .d (.sl (List.map (D.int .u8) b_))]) := by
  obtain ⟨p, ⟨hne, hf⟩, hr⟩ := data_Cut_ok seg_ off_ b_ r h
  obtain ⟨k, hk⟩ := run_of (F := F53) (args := [.d (.int .i64 seg_), .d (.int .u16 off_), .d (.sl (List.map (D.int .u8) b_))]) (ap := [.d (.int .i64 seg_), .d (.int .u16 off_), .d (.sl (List.map (D.int .u8) b_))]) (bx0 := updW (fun _ => none) []) rfl rfl (by kernel_rfl) ⟨p, ⟨hne, hf⟩, hr⟩
  exact lim_run (k := k) rfl hk
def hansomlaw23_DataCut_h10 (b_18 : (List Int)) (off1 : Int) (b2 : (List Int)) (s7 : Int) (i9 : Int) (v_18 : Nat) : St := ⟨tab [(1, .d (.int .u16 off1)), (2, .d (.sl (List.map (D.int .u8) b2))), (7, .d (.int .i64 s7)), (8, .ref [18] v_18 0 (List.map (D.int .u8) b_18).length 1), (9, .d (.int .i64 i9))], tabB [([18], some (.arr (List.map (D.int .u8) b_18) v_18 false))]⟩
def hansomlaw23_DataCut_h29 (b_18 : (List Int)) (off1 : Int) (s7 : Int) (v_18 : Nat) : St := ⟨tab [(1, .d (.int .u16 off1)), (7, .d (.int .i64 s7)), (8, .ref [18] v_18 0 (List.map (D.int .u8) b_18).length 1)], tabB [([18], some (.arr (List.map (D.int .u8) b_18) v_18 false))]⟩
def hansomlaw23_DataCut_h39 (off1 : Int) (s7 : Int) (x8 : (List Int)) (at11 : Int) (l12 : (List Data)) (i13 : Int) : St := ⟨tab [(1, .d (.int .u16 off1)), (7, .d (.int .i64 s7)), (8, .d (.sl (List.map (D.int .u8) x8))), (11, .d (.int .i64 at11)), (12, .d (.sl (List.map Data.d l12))), (13, .d (.int .i64 i13))], tabB []⟩
def hansomlaw23_DataCut_h60 (x8 : (List Int)) (at11 : Int) : St := ⟨tab [(8, .d (.sl (List.map (D.int .u8) x8))), (11, .d (.int .i64 at11))], tabB []⟩
def hansomlaw23_DataCut_Q (seg_ : Int) (off_ : Int) (b_ : (List Int)) (r : Bool) (p : Out × St) : Prop := (∀ i, p.1 ≠ .exit i) ∧ finF F10 [.d (.int .i64 seg_), .d (.int .u16 off_), .d (.sl (List.map (D.int .u8) b_))] p.2 = some (.d (.bool r), [.d (.int .i64 seg_), .d (.int .u16 off_), .d (.sl (List.map (D.int .u8) b_))])
def hansomlaw23_DataCut_P10 (seg_ : Int) (off_ : Int) (b_ : (List Int)) (off1 : Int) (b2 : (List Int)) (s7 : Int) (e : (List Int)) (p : Out × St) : Prop := p.1 = .exit 0 ∧ ∃ g : Nat, Canon [] [1, 7, 8] [[18]] p.2 (hansomlaw23_DataCut_h29 e off1 s7 g)
def hansomlaw23_DataCut_P39 (seg_ : Int) (off_ : Int) (b_ : (List Int)) (off1 : Int) (s7 : Int) (x8 : (List Int)) (l12 : (List Data)) (e : (Bool ⊕ Int)) (p : Out × St) : Prop := match e with
  | .inl x => p.1 = .ret ∧ finF F10 [.d (.int .i64 seg_), .d (.int .u16 off_), .d (.sl (List.map (D.int .u8) b_))] p.2 = some (.d (.bool x), [.d (.int .i64 seg_), .d (.int .u16 off_), .d (.sl (List.map (D.int .u8) b_))])
  | .inr x => p.1 = .exit 2 ∧ ∃ g : Unit, Canon [] [8, 11] [] p.2 (hansomlaw23_DataCut_h60 x8 x)
theorem hansomlaw23_DataCut_l10_ok (seg_ : Int) (off_ : Int) (b_ : (List Int)) (b_18 : (List Int)) (off1 : Int) (b2 : (List Int)) (s7 : Int) (i9 : Int) (v_18 : Nat) (r : (Lp ((List Int) × Int) (List Int))) (h : hansomlaw23_DataCut_l10 b_18 off1 b2 s7 i9 = some r) : Runs L F10l10 (hansomlaw23_DataCut_h10 b_18 off1 b2 s7 i9 v_18) (LQ [] [1, 2, 7, 8, 9] [[18]] (fun (x : ((List Int) × Int)) (g : Nat) => hansomlaw23_DataCut_h10 x.1 off1 b2 s7 x.2 g) (hansomlaw23_DataCut_P10 seg_ off_ b_ off1 b2 s7) r) := by
  unfold hansomlaw23_DataCut_l10 at h
  refine Runs.seq ?_
  refine Runs.seq ?_
  refine Runs.ops ?_
  refine RunAt.chunk 2 [⟨.d (.int .i64 i9), []⟩, ⟨.d (.bool (decide (i9 < 3000))), []⟩] (by kernel_rfl) ?_
  refine RunAt.done (by kernel_rfl) ?_
  refine kS_nrm ?_
  cases hb_1 : ((decide (i9 < 3000)) : Bool) with
  | true =>
    replace h := ite_t hb_1 h
    refine Runs.cond_t (by kernel_rfl) ?_
    refine Runs.skip ?_
    refine kS_nrm ?_
    refine Runs.seq ?_
    refine Runs.block ?_
    refine Runs.seq ?_
    refine Runs.ops ?_
    refine RunAt.chunk 3 [⟨.d (.int .i64 i9), []⟩, ⟨.d (.int .u8 (IntKind.wrap .u8 i9)), []⟩, ⟨.d (.int .u8 (IntKind.wrap .u8 i9)), []⟩] (by kernel_rfl) ?_
    refine RunAt.done (by kernel_rfl) ?_
    refine kS_nrm ?_
    refine Runs.seq ?_
    refine Runs.seq ?_
    refine Runs.ops ?_
    refine RunAt.chunk 2 [⟨.d (.int .i64 i9), []⟩, ⟨.d (.sl (List.map (D.int .u8) b2)), []⟩] (by kernel_rfl) ?_
    refine RunAt.cut (some 27) .lenL [] none [.d (.sl (List.map (D.int .u8) b2))] (.d (.int .i64 (b2.length : Int))) [] (by kernel_rfl) (by kernel_rfl) (by kernel_rfl) (cut_len _) ?_
    refine RunAt.chunk 1 [⟨.d (.bool (decide (i9 < (b2.length : Int)))), []⟩] (by kernel_rfl) ?_
    refine RunAt.done (by kernel_rfl) ?_
    refine kS_nrm ?_
    cases hb_2 : ((decide (i9 < (b2.length : Int))) : Bool) with
    | true =>
      replace h := ite_t hb_2 h
      refine Runs.cond_t (by kernel_rfl) ?_
      refine Runs.ops ?_
      refine RunAt.chunk 2 [⟨.d (.sl (List.map (D.int .u8) b2)), []⟩, ⟨.d (.int .i64 i9), []⟩] (by kernel_rfl) ?_
      obtain ⟨z_1, hz_1, h⟩ := bind_s h
      refine RunAt.cut (some 31) (.iaddrS 1) [] none [.d (.sl (List.map (D.int .u8) b2)), .d (.int .i64 i9)] (.elt (.int .u8 z_1) 0) [] (by kernel_rfl) (by kernel_rfl) (by kernel_rfl) (cut_at hz_1 (fun _ => rfl)) ?_
      refine RunAt.chunk 2 [⟨.d (.int .u8 z_1), []⟩, ⟨.d (.int .u8 z_1), []⟩] (by kernel_rfl) ?_
      refine RunAt.done (by kernel_rfl) ?_
      refine kS_nrm ?_
      refine Runs.ops ?_
      refine RunAt.chunk 3 [⟨.ref [18] v_18 0 (List.map (D.int .u8) b_18).length 1, []⟩, ⟨.d (.int .u8 z_1), []⟩, ⟨.ref [35] 0 0 (List.map (D.int .u8) ([z_1] : List Int)).length 1, [([35], some (.arr (List.map (D.int .u8) ([z_1] : List Int)) 0 false))]⟩] (by kernel_rfl) ?_
      obtain ⟨z_2, hz_2, h⟩ := bind_s h
      refine RunAt.cut (some 36) (.append 1 1 false) [] none [.ref [18] v_18 0 (List.map (D.int .u8) b_18).length 1, .ref [35] 0 0 (List.map (D.int .u8) ([z_1] : List Int)).length 1] (.ref [18] (v_18 + 1) 0 (List.map (D.int .u8) z_2).length 1) [([35], some (.arr (List.map (D.int .u8) ([z_1] : List Int)) 0 true)), ([18], some (.arr (List.map (D.int .u8) z_2) (v_18 + 1) false))] (by kernel_rfl) (by kernel_rfl) (by kernel_rfl) (cut_appR (e := (D.int .u8)) (l := b_18) (fz := false) (ws := [([35], some (.arr (List.map (D.int .u8) ([z_1] : List Int)) 0 true))]) (ap_ref (e := (D.int .u8)) (l := ([z_1] : List Int)) (fz := false) (by kernel_rfl) (by kernel_rfl) rfl) (fun _ => rfl) hz_2 (by kernel_rfl) (by kernel_rfl) rfl) ?_
      refine RunAt.chunk 1 [⟨.ref [18] (v_18 + 1) 0 (List.map (D.int .u8) z_2).length 1, []⟩] (by kernel_rfl) ?_
      refine RunAt.done (by kernel_rfl) ?_
      refine kB_nrm ?_
      refine kS_nrm ?_
      refine Runs.ops ?_
      refine RunAt.chunk 3 [⟨.d (.int .i64 i9), []⟩, ⟨.d (.int .i64 (IntKind.wrap .i64 (i9 + 1))), []⟩, ⟨.d (.int .i64 (IntKind.wrap .i64 (i9 + 1))), []⟩] (by kernel_rfl) ?_
      refine RunAt.done (by kernel_rfl) ?_
      obtain rfl := Option.some.inj h
      exact ⟨rfl, (v_18 + 1), (Canon.nil (by kernel_rfl))⟩
    | false =>
      replace h := ite_f hb_2 h
      refine Runs.cond_f (by kernel_rfl) ?_
      refine Runs.skip ?_
      refine kS_nrm ?_
      refine Runs.ops ?_
      refine RunAt.chunk 3 [⟨.ref [18] v_18 0 (List.map (D.int .u8) b_18).length 1, []⟩, ⟨.d (.int .u8 (IntKind.wrap .u8 i9)), []⟩, ⟨.ref [35] 0 0 (List.map (D.int .u8) ([(IntKind.wrap .u8 i9)] : List Int)).length 1, [([35], some (.arr (List.map (D.int .u8) ([(IntKind.wrap .u8 i9)] : List Int)) 0 false))]⟩] (by kernel_rfl) ?_
      obtain ⟨z_3, hz_3, h⟩ := bind_s h
      refine RunAt.cut (some 36) (.append 1 1 false) [] none [.ref [18] v_18 0 (List.map (D.int .u8) b_18).length 1, .ref [35] 0 0 (List.map (D.int .u8) ([(IntKind.wrap .u8 i9)] : List Int)).length 1] (.ref [18] (v_18 + 1) 0 (List.map (D.int .u8) z_3).length 1) [([35], some (.arr (List.map (D.int .u8) ([(IntKind.wrap .u8 i9)] : List Int)) 0 true)), ([18], some (.arr (List.map (D.int .u8) z_3) (v_18 + 1) false))] (by kernel_rfl) (by kernel_rfl) (by kernel_rfl) (cut_appR (e := (D.int .u8)) (l := b_18) (fz := false) (ws := [([35], some (.arr (List.map (D.int .u8) ([(IntKind.wrap .u8 i9)] : List Int)) 0 true))]) (ap_ref (e := (D.int .u8)) (l := ([(IntKind.wrap .u8 i9)] : List Int)) (fz := false) (by kernel_rfl) (by kernel_rfl) rfl) (fun _ => rfl) hz_3 (by kernel_rfl) (by kernel_rfl) rfl) ?_
      refine RunAt.chunk 1 [⟨.ref [18] (v_18 + 1) 0 (List.map (D.int .u8) z_3).length 1, []⟩] (by kernel_rfl) ?_
      refine RunAt.done (by kernel_rfl) ?_
      refine kB_nrm ?_
      refine kS_nrm ?_
      refine Runs.ops ?_
      refine RunAt.chunk 3 [⟨.d (.int .i64 i9), []⟩, ⟨.d (.int .i64 (IntKind.wrap .i64 (i9 + 1))), []⟩, ⟨.d (.int .i64 (IntKind.wrap .i64 (i9 + 1))), []⟩] (by kernel_rfl) ?_
      refine RunAt.done (by kernel_rfl) ?_
      obtain rfl := Option.some.inj h
      exact ⟨rfl, (v_18 + 1), (Canon.nil (by kernel_rfl))⟩
  | false =>
    replace h := ite_f hb_1 h
    refine Runs.cond_f (by kernel_rfl) ?_
    refine Runs.exit ?_
    refine kS_exit ?_
    obtain rfl := Option.some.inj h
    exact ⟨nofun, rfl, v_18, (Canon.nil (by kernel_rfl))⟩
theorem hansomlaw23_DataCut_l39_ok (seg_ : Int) (off_ : Int) (b_ : (List Int)) (off1 : Int) (s7 : Int) (x8 : (List Int)) (at11 : Int) (l12 : (List Data)) (i13 : Int) (r : (Lp (Int × Int) (Bool ⊕ Int))) (h : hansomlaw23_DataCut_l39 off1 s7 x8 at11 l12 i13 = some r) : Runs L F10l39 (hansomlaw23_DataCut_h39 off1 s7 x8 at11 l12 i13) (LQ [.frz 8] [1, 7, 8, 11, 12, 13] [] (fun (x : (Int × Int)) (g : Unit) => hansomlaw23_DataCut_h39 off1 s7 x8 x.1 l12 x.2) (hansomlaw23_DataCut_P39 seg_ off_ b_ off1 s7 x8 l12) r) := by
  unfold hansomlaw23_DataCut_l39 at h
  refine Runs.seq ?_
  refine Runs.seq ?_
  refine Runs.ops ?_
  refine RunAt.chunk 2 [⟨.d (.int .i64 i13), []⟩, ⟨.d (.sl (List.map Data.d l12)), []⟩] (by kernel_rfl) ?_
  refine RunAt.cut (some 49) .lenL [] none [.d (.sl (List.map Data.d l12))] (.d (.int .i64 (l12.length : Int))) [] (by kernel_rfl) (by kernel_rfl) (by kernel_rfl) (cut_len _) ?_
  refine RunAt.chunk 1 [⟨.d (.bool (decide (i13 < (l12.length : Int)))), []⟩] (by kernel_rfl) ?_
  refine RunAt.done (by kernel_rfl) ?_
  refine kS_nrm ?_
  cases hb_1 : ((decide (i13 < (l12.length : Int))) : Bool) with
  | true =>
    replace h := ite_t hb_1 h
    refine Runs.cond_t (by kernel_rfl) ?_
    refine Runs.skip ?_
    refine kS_nrm ?_
    refine Runs.seq ?_
    refine Runs.block ?_
    refine Runs.seq ?_
    refine Runs.ops ?_
    refine RunAt.chunk 2 [⟨.d (.sl (List.map Data.d l12)), []⟩, ⟨.d (.int .i64 i13), []⟩] (by kernel_rfl) ?_
    obtain ⟨z_2, hz_2, h⟩ := bind_s h
    refine RunAt.cut (some 55) (.iaddrS 4) [] none [.d (.sl (List.map Data.d l12)), .d (.int .i64 i13)] (.elt (Data.d z_2) 0) [] (by kernel_rfl) (by kernel_rfl) (by kernel_rfl) (cut_at hz_2 (fun _ => rfl)) ?_
    refine RunAt.chunk 2 [⟨.elt (Data.d z_2) 2, []⟩, ⟨.d (.sl (List.map (D.int .u8) z_2.Bytes)), []⟩] (by kernel_rfl) ?_
    refine RunAt.cut (some 58) .lenL [] none [.d (.sl (List.map (D.int .u8) z_2.Bytes))] (.d (.int .i64 (z_2.Bytes.length : Int))) [] (by kernel_rfl) (by kernel_rfl) (by kernel_rfl) (cut_len _) ?_
    refine RunAt.chunk 1 [⟨.d (.int .i64 (z_2.Bytes.length : Int)), []⟩] (by kernel_rfl) ?_
    refine RunAt.done (by kernel_rfl) ?_
    refine kS_nrm ?_
    refine Runs.seq ?_
    refine Runs.seq ?_
    refine Runs.ops ?_
    refine RunAt.chunk 2 [⟨.d (.sl (List.map Data.d l12)), []⟩, ⟨.d (.int .i64 i13), []⟩] (by kernel_rfl) ?_
    obtain ⟨z_3, hz_3, h⟩ := bind_s h
    refine RunAt.cut (some 61) (.iaddrS 4) [] none [.d (.sl (List.map Data.d l12)), .d (.int .i64 i13)] (.elt (Data.d z_3) 0) [] (by kernel_rfl) (by kernel_rfl) (by kernel_rfl) (cut_at hz_3 (fun _ => rfl)) ?_
    refine RunAt.chunk 1 [⟨.d (Data.d z_3), []⟩] (by kernel_rfl) ?_
    obtain ⟨r_2, hr_2, h⟩ := bind_s h
    have hc_2 := data_May_L z_3 r_2 hr_2
    refine RunAt.cut (some 63) (.callf 43) [] none [.d (Data.d z_3)] (.d (.bool r_2)) [] (by kernel_rfl) (by kernel_rfl) (by kernel_rfl) (cut_call (call_of (ws := []) (us := []) (by kernel_rfl) (by kernel_rfl) hc_2 (by kernel_rfl) (by kernel_rfl))) ?_
    refine RunAt.chunk 2 [⟨.d (.bool (!r_2)), []⟩, ⟨.d (.bool (!r_2)), []⟩] (by kernel_rfl) ?_
    cases hb_2 : ((!r_2) : Bool) with
    | true =>
      replace h := ite_t hb_2 h
      refine RunAt.chunk 57 [⟨.tup [], []⟩, ⟨.tup [], []⟩, ⟨.tup [], []⟩, ⟨.tup [], []⟩, ⟨.tup [], []⟩, ⟨.tup [], []⟩, ⟨.tup [], []⟩, ⟨.d (.bool true), []⟩, ⟨.d (.bool true), []⟩, ⟨.tup [], []⟩, ⟨.tup [], []⟩, ⟨.tup [], []⟩, ⟨.tup [], []⟩, ⟨.tup [], []⟩, ⟨.tup [], []⟩, ⟨.tup [], []⟩, ⟨.tup [], []⟩, ⟨.tup [], []⟩, ⟨.tup [], []⟩, ⟨.tup [], []⟩, ⟨.tup [], []⟩, ⟨.d (.bool true), []⟩, ⟨.d (.bool true), []⟩, ⟨.tup [], []⟩, ⟨.tup [], []⟩, ⟨.tup [], []⟩, ⟨.tup [], []⟩, ⟨.tup [], []⟩, ⟨.tup [], []⟩, ⟨.d (.bool true), []⟩, ⟨.d (.bool true), []⟩, ⟨.tup [], []⟩, ⟨.tup [], []⟩, ⟨.tup [], []⟩, ⟨.tup [], []⟩, ⟨.tup [], []⟩, ⟨.tup [], []⟩, ⟨.tup [], []⟩, ⟨.tup [], []⟩, ⟨.tup [], []⟩, ⟨.tup [], []⟩, ⟨.tup [], []⟩, ⟨.tup [], []⟩, ⟨.tup [], []⟩, ⟨.tup [], []⟩, ⟨.d (.bool true), []⟩, ⟨.d (.bool true), []⟩, ⟨.tup [], []⟩, ⟨.tup [], []⟩, ⟨.tup [], []⟩, ⟨.tup [], []⟩, ⟨.tup [], []⟩, ⟨.tup [], []⟩, ⟨.tup [], []⟩, ⟨.tup [], []⟩, ⟨.tup [], []⟩, ⟨.d (.bool true), []⟩] (by kernel_rfl) ?_
      refine RunAt.done (by kernel_rfl) ?_
      refine kS_nrm ?_
      refine Runs.cond_t (by kernel_rfl) ?_
      refine Runs.seq ?_
      refine Runs.ops ?_
      refine RunAt.chunk 1 [⟨.d (.bool false), []⟩] (by kernel_rfl) ?_
      refine RunAt.done (by kernel_rfl) ?_
      refine kS_nrm ?_
      refine Runs.ret ?_
      refine kS_ret ?_
      refine kB_ret ?_
      refine kS_ret ?_
      obtain rfl := Option.some.inj h
      exact ⟨nofun, rfl, (by kernel_rfl)⟩
    | false =>
      replace h := ite_f hb_2 h
      refine RunAt.chunk 2 [⟨.d (.sl (List.map Data.d l12)), []⟩, ⟨.d (.int .i64 i13), []⟩] (by kernel_rfl) ?_
      obtain ⟨z_4, hz_4, h⟩ := bind_s h
      refine RunAt.cut (some 68) (.iaddrS 4) [] none [.d (.sl (List.map Data.d l12)), .d (.int .i64 i13)] (.elt (Data.d z_4) 0) [] (by kernel_rfl) (by kernel_rfl) (by kernel_rfl) (cut_at hz_4 (fun _ => rfl)) ?_
      refine RunAt.chunk 6 [⟨.elt (Data.d z_4) 0, []⟩, ⟨.d (.int .i64 z_4.Seg), []⟩, ⟨.d (.int .i64 s7), []⟩, ⟨.d (.bool (z_4.Seg != s7)), []⟩, ⟨.d (.bool (z_4.Seg != s7)), []⟩, ⟨.d (.bool (z_4.Seg != s7)), []⟩] (by kernel_rfl) ?_
      cases hb_3 : ((z_4.Seg != s7) : Bool) with
      | true =>
        replace h := ite_t hb_3 h
        refine RunAt.chunk 48 [⟨.tup [], []⟩, ⟨.tup [], []⟩, ⟨.tup [], []⟩, ⟨.tup [], []⟩, ⟨.tup [], []⟩, ⟨.tup [], []⟩, ⟨.tup [], []⟩, ⟨.tup [], []⟩, ⟨.tup [], []⟩, ⟨.tup [], []⟩, ⟨.tup [], []⟩, ⟨.tup [], []⟩, ⟨.d (.bool true), []⟩, ⟨.d (.bool true), []⟩, ⟨.tup [], []⟩, ⟨.tup [], []⟩, ⟨.tup [], []⟩, ⟨.tup [], []⟩, ⟨.tup [], []⟩, ⟨.tup [], []⟩, ⟨.d (.bool true), []⟩, ⟨.d (.bool true), []⟩, ⟨.tup [], []⟩, ⟨.tup [], []⟩, ⟨.tup [], []⟩, ⟨.tup [], []⟩, ⟨.tup [], []⟩, ⟨.tup [], []⟩, ⟨.tup [], []⟩, ⟨.tup [], []⟩, ⟨.tup [], []⟩, ⟨.tup [], []⟩, ⟨.tup [], []⟩, ⟨.tup [], []⟩, ⟨.tup [], []⟩, ⟨.tup [], []⟩, ⟨.d (.bool true), []⟩, ⟨.d (.bool true), []⟩, ⟨.tup [], []⟩, ⟨.tup [], []⟩, ⟨.tup [], []⟩, ⟨.tup [], []⟩, ⟨.tup [], []⟩, ⟨.tup [], []⟩, ⟨.tup [], []⟩, ⟨.tup [], []⟩, ⟨.tup [], []⟩, ⟨.d (.bool true), []⟩] (by kernel_rfl) ?_
        refine RunAt.done (by kernel_rfl) ?_
        refine kS_nrm ?_
        refine Runs.cond_t (by kernel_rfl) ?_
        refine Runs.seq ?_
        refine Runs.ops ?_
        refine RunAt.chunk 1 [⟨.d (.bool false), []⟩] (by kernel_rfl) ?_
        refine RunAt.done (by kernel_rfl) ?_
        refine kS_nrm ?_
        refine Runs.ret ?_
        refine kS_ret ?_
        refine kB_ret ?_
        refine kS_ret ?_
        obtain rfl := Option.some.inj h
        exact ⟨nofun, rfl, (by kernel_rfl)⟩
      | false =>
        replace h := ite_f hb_3 h
        refine RunAt.chunk 2 [⟨.d (.sl (List.map Data.d l12)), []⟩, ⟨.d (.int .i64 i13), []⟩] (by kernel_rfl) ?_
        obtain ⟨z_5, hz_5, h⟩ := bind_s h
        refine RunAt.cut (some 77) (.iaddrS 4) [] none [.d (.sl (List.map Data.d l12)), .d (.int .i64 i13)] (.elt (Data.d z_5) 0) [] (by kernel_rfl) (by kernel_rfl) (by kernel_rfl) (cut_at hz_5 (fun _ => rfl)) ?_
        refine RunAt.chunk 11 [⟨.elt (Data.d z_5) 1, []⟩, ⟨.d (.int .u16 z_5.Off), []⟩, ⟨.d (.int .i64 (IntKind.wrap .i64 z_5.Off)), []⟩, ⟨.d (.int .u16 off1), []⟩, ⟨.d (.int .u16 (bitsOp .and .u16 off1 4095)), []⟩, ⟨.d (.int .i64 (IntKind.wrap .i64 (bitsOp .and .u16 off1 4095))), []⟩, ⟨.d (.int .i64 at11), []⟩, ⟨.d (.int .i64 (IntKind.wrap .i64 ((IntKind.wrap .i64 (bitsOp .and .u16 off1 4095)) + at11))), []⟩, ⟨.d (.bool ((IntKind.wrap .i64 z_5.Off) != (IntKind.wrap .i64 ((IntKind.wrap .i64 (bitsOp .and .u16 off1 4095)) + at11)))), []⟩, ⟨.d (.bool ((IntKind.wrap .i64 z_5.Off) != (IntKind.wrap .i64 ((IntKind.wrap .i64 (bitsOp .and .u16 off1 4095)) + at11)))), []⟩, ⟨.d (.bool ((IntKind.wrap .i64 z_5.Off) != (IntKind.wrap .i64 ((IntKind.wrap .i64 (bitsOp .and .u16 off1 4095)) + at11)))), []⟩] (by kernel_rfl) ?_
        cases hb_4 : (((IntKind.wrap .i64 z_5.Off) != (IntKind.wrap .i64 ((IntKind.wrap .i64 (bitsOp .and .u16 off1 4095)) + at11))) : Bool) with
        | true =>
          replace h := ite_t hb_4 h
          refine RunAt.chunk 34 [⟨.tup [], []⟩, ⟨.tup [], []⟩, ⟨.tup [], []⟩, ⟨.tup [], []⟩, ⟨.tup [], []⟩, ⟨.tup [], []⟩, ⟨.d (.bool true), []⟩, ⟨.d (.bool true), []⟩, ⟨.tup [], []⟩, ⟨.tup [], []⟩, ⟨.tup [], []⟩, ⟨.tup [], []⟩, ⟨.tup [], []⟩, ⟨.tup [], []⟩, ⟨.tup [], []⟩, ⟨.tup [], []⟩, ⟨.tup [], []⟩, ⟨.tup [], []⟩, ⟨.tup [], []⟩, ⟨.tup [], []⟩, ⟨.tup [], []⟩, ⟨.tup [], []⟩, ⟨.d (.bool true), []⟩, ⟨.d (.bool true), []⟩, ⟨.tup [], []⟩, ⟨.tup [], []⟩, ⟨.tup [], []⟩, ⟨.tup [], []⟩, ⟨.tup [], []⟩, ⟨.tup [], []⟩, ⟨.tup [], []⟩, ⟨.tup [], []⟩, ⟨.tup [], []⟩, ⟨.d (.bool true), []⟩] (by kernel_rfl) ?_
          refine RunAt.done (by kernel_rfl) ?_
          refine kS_nrm ?_
          refine Runs.cond_t (by kernel_rfl) ?_
          refine Runs.seq ?_
          refine Runs.ops ?_
          refine RunAt.chunk 1 [⟨.d (.bool false), []⟩] (by kernel_rfl) ?_
          refine RunAt.done (by kernel_rfl) ?_
          refine kS_nrm ?_
          refine Runs.ret ?_
          refine kS_ret ?_
          refine kB_ret ?_
          refine kS_ret ?_
          obtain rfl := Option.some.inj h
          exact ⟨nofun, rfl, (by kernel_rfl)⟩
        | false =>
          replace h := ite_f hb_4 h
          refine RunAt.chunk 4 [⟨.d (.int .i64 at11), []⟩, ⟨.d (.int .i64 (z_2.Bytes.length : Int)), []⟩, ⟨.d (.int .i64 (IntKind.wrap .i64 (at11 + (z_2.Bytes.length : Int)))), []⟩, ⟨.d (.sl (List.map (D.int .u8) x8)), []⟩] (by kernel_rfl) ?_
          refine RunAt.cut (some 93) .lenL [] none [.d (.sl (List.map (D.int .u8) x8))] (.d (.int .i64 (x8.length : Int))) [] (by kernel_rfl) (by kernel_rfl) (by kernel_rfl) (cut_len _) ?_
          refine RunAt.chunk 3 [⟨.d (.bool (decide ((IntKind.wrap .i64 (at11 + (z_2.Bytes.length : Int))) > (x8.length : Int)))), []⟩, ⟨.d (.bool (decide ((IntKind.wrap .i64 (at11 + (z_2.Bytes.length : Int))) > (x8.length : Int)))), []⟩, ⟨.d (.bool (decide ((IntKind.wrap .i64 (at11 + (z_2.Bytes.length : Int))) > (x8.length : Int)))), []⟩] (by kernel_rfl) ?_
          cases hb_5 : ((decide ((IntKind.wrap .i64 (at11 + (z_2.Bytes.length : Int))) > (x8.length : Int))) : Bool) with
          | true =>
            replace h := ite_t hb_5 h
            refine RunAt.chunk 26 [⟨.tup [], []⟩, ⟨.tup [], []⟩, ⟨.tup [], []⟩, ⟨.tup [], []⟩, ⟨.tup [], []⟩, ⟨.tup [], []⟩, ⟨.tup [], []⟩, ⟨.tup [], []⟩, ⟨.tup [], []⟩, ⟨.tup [], []⟩, ⟨.tup [], []⟩, ⟨.tup [], []⟩, ⟨.tup [], []⟩, ⟨.tup [], []⟩, ⟨.d (.bool true), []⟩, ⟨.d (.bool true), []⟩, ⟨.tup [], []⟩, ⟨.tup [], []⟩, ⟨.tup [], []⟩, ⟨.tup [], []⟩, ⟨.tup [], []⟩, ⟨.tup [], []⟩, ⟨.tup [], []⟩, ⟨.tup [], []⟩, ⟨.tup [], []⟩, ⟨.d (.bool true), []⟩] (by kernel_rfl) ?_
            refine RunAt.done (by kernel_rfl) ?_
            refine kS_nrm ?_
            refine Runs.cond_t (by kernel_rfl) ?_
            refine Runs.seq ?_
            refine Runs.ops ?_
            refine RunAt.chunk 1 [⟨.d (.bool false), []⟩] (by kernel_rfl) ?_
            refine RunAt.done (by kernel_rfl) ?_
            refine kS_nrm ?_
            refine Runs.ret ?_
            refine kS_ret ?_
            refine kB_ret ?_
            refine kS_ret ?_
            obtain rfl := Option.some.inj h
            exact ⟨nofun, rfl, (by kernel_rfl)⟩
          | false =>
            replace h := ite_f hb_5 h
            refine RunAt.chunk 2 [⟨.d (.sl (List.map Data.d l12)), []⟩, ⟨.d (.int .i64 i13), []⟩] (by kernel_rfl) ?_
            obtain ⟨z_6, hz_6, h⟩ := bind_s h
            refine RunAt.cut (some 99) (.iaddrS 4) [] none [.d (.sl (List.map Data.d l12)), .d (.int .i64 i13)] (.elt (Data.d z_6) 0) [] (by kernel_rfl) (by kernel_rfl) (by kernel_rfl) (cut_at hz_6 (fun _ => rfl)) ?_
            refine RunAt.chunk 2 [⟨.elt (Data.d z_6) 2, []⟩, ⟨.d (.sl (List.map (D.int .u8) z_6.Bytes)), []⟩] (by kernel_rfl) ?_
            refine RunAt.cut (some 102) .bytesStr [] none [.d (.sl (List.map (D.int .u8) z_6.Bytes))] (.d (.str (b2s z_6.Bytes))) [] (by kernel_rfl) (by kernel_rfl) (by kernel_rfl) (cut_bs _) ?_
            refine RunAt.chunk 5 [⟨.d (.sl (List.map (D.int .u8) x8)), []⟩, ⟨.d (.int .i64 at11), []⟩, ⟨.d (.int .i64 at11), []⟩, ⟨.d (.int .i64 (z_2.Bytes.length : Int)), []⟩, ⟨.d (.int .i64 (IntKind.wrap .i64 (at11 + (z_2.Bytes.length : Int)))), []⟩] (by kernel_rfl) ?_
            obtain ⟨z_7, hz_7, h⟩ := bind_s h
            refine RunAt.cut (some 108) (.subsl 1 true true false) [] none [.d (.sl (List.map (D.int .u8) x8)), .d (.int .i64 at11), .d (.int .i64 (IntKind.wrap .i64 (at11 + (z_2.Bytes.length : Int))))] (.d (.sl (List.map (D.int .u8) z_7))) [] (by kernel_rfl) (by kernel_rfl) (by kernel_rfl) (cut_slTT hz_7 (fun _ => rfl)) ?_
            refine RunAt.cut (some 109) .bytesStr [] none [.d (.sl (List.map (D.int .u8) z_7))] (.d (.str (b2s z_7))) [] (by kernel_rfl) (by kernel_rfl) (by kernel_rfl) (cut_bs _) ?_
            refine RunAt.chunk 3 [⟨.d (.bool ((b2s z_6.Bytes) != (b2s z_7))), []⟩, ⟨.d (.bool ((b2s z_6.Bytes) != (b2s z_7))), []⟩, ⟨.d (.bool ((b2s z_6.Bytes) != (b2s z_7))), []⟩] (by kernel_rfl) ?_
            cases hb_6 : (((b2s z_6.Bytes) != (b2s z_7)) : Bool) with
            | true =>
              replace h := ite_t hb_6 h
              refine RunAt.chunk 10 [⟨.tup [], []⟩, ⟨.tup [], []⟩, ⟨.tup [], []⟩, ⟨.tup [], []⟩, ⟨.tup [], []⟩, ⟨.tup [], []⟩, ⟨.tup [], []⟩, ⟨.tup [], []⟩, ⟨.tup [], []⟩, ⟨.d (.bool true), []⟩] (by kernel_rfl) ?_
              refine RunAt.done (by kernel_rfl) ?_
              refine kS_nrm ?_
              refine Runs.cond_t (by kernel_rfl) ?_
              refine Runs.seq ?_
              refine Runs.ops ?_
              refine RunAt.chunk 1 [⟨.d (.bool false), []⟩] (by kernel_rfl) ?_
              refine RunAt.done (by kernel_rfl) ?_
              refine kS_nrm ?_
              refine Runs.ret ?_
              refine kS_ret ?_
              refine kB_ret ?_
              refine kS_ret ?_
              obtain rfl := Option.some.inj h
              exact ⟨nofun, rfl, (by kernel_rfl)⟩
            | false =>
              replace h := ite_f hb_6 h
              refine RunAt.chunk 2 [⟨.d (.int .i64 i13), []⟩, ⟨.d (.sl (List.map Data.d l12)), []⟩] (by kernel_rfl) ?_
              refine RunAt.cut (some 115) .lenL [] none [.d (.sl (List.map Data.d l12))] (.d (.int .i64 (l12.length : Int))) [] (by kernel_rfl) (by kernel_rfl) (by kernel_rfl) (cut_len _) ?_
              refine RunAt.chunk 3 [⟨.d (.int .i64 (IntKind.wrap .i64 ((l12.length : Int) - 1))), []⟩, ⟨.d (.bool (decide (i13 < (IntKind.wrap .i64 ((l12.length : Int) - 1))))), []⟩, ⟨.d (.bool (decide (i13 < (IntKind.wrap .i64 ((l12.length : Int) - 1))))), []⟩] (by kernel_rfl) ?_
              cases hb_7 : ((decide (i13 < (IntKind.wrap .i64 ((l12.length : Int) - 1)))) : Bool) with
              | true =>
                replace h := ite_t hb_7 h
                refine RunAt.chunk 4 [⟨.d (.int .i64 (z_2.Bytes.length : Int)), []⟩, ⟨.d (.bool ((z_2.Bytes.length : Int) != 1024)), []⟩, ⟨.d (.bool ((z_2.Bytes.length : Int) != 1024)), []⟩, ⟨.d (.bool ((z_2.Bytes.length : Int) != 1024)), []⟩] (by kernel_rfl) ?_
                refine RunAt.done (by kernel_rfl) ?_
                refine kS_nrm ?_
                cases hb_8 : (((z_2.Bytes.length : Int) != 1024) : Bool) with
                | true =>
                  replace h := ite_t hb_8 h
                  refine Runs.cond_t (by kernel_rfl) ?_
                  refine Runs.seq ?_
                  refine Runs.ops ?_
                  refine RunAt.chunk 1 [⟨.d (.bool false), []⟩] (by kernel_rfl) ?_
                  refine RunAt.done (by kernel_rfl) ?_
                  refine kS_nrm ?_
                  refine Runs.ret ?_
                  refine kS_ret ?_
                  refine kB_ret ?_
                  refine kS_ret ?_
                  obtain rfl := Option.some.inj h
                  exact ⟨nofun, rfl, (by kernel_rfl)⟩
                | false =>
                  replace h := ite_f hb_8 h
                  refine Runs.cond_f (by kernel_rfl) ?_
                  refine Runs.skip ?_
                  refine kS_nrm ?_
                  refine Runs.ops ?_
                  refine RunAt.chunk 4 [⟨.d (.int .i64 at11), []⟩, ⟨.d (.int .i64 (z_2.Bytes.length : Int)), []⟩, ⟨.d (.int .i64 (IntKind.wrap .i64 (at11 + (z_2.Bytes.length : Int)))), []⟩, ⟨.d (.int .i64 (IntKind.wrap .i64 (at11 + (z_2.Bytes.length : Int)))), []⟩] (by kernel_rfl) ?_
                  refine RunAt.done (by kernel_rfl) ?_
                  refine kB_nrm ?_
                  refine kS_nrm ?_
                  refine Runs.ops ?_
                  refine RunAt.chunk 3 [⟨.d (.int .i64 i13), []⟩, ⟨.d (.int .i64 (IntKind.wrap .i64 (i13 + 1))), []⟩, ⟨.d (.int .i64 (IntKind.wrap .i64 (i13 + 1))), []⟩] (by kernel_rfl) ?_
                  refine RunAt.done (by kernel_rfl) ?_
                  obtain rfl := Option.some.inj h
                  exact ⟨rfl, (), (Canon.same (by kernel_rfl) (Canon.nil (by kernel_rfl)))⟩
              | false =>
                replace h := ite_f hb_7 h
                refine RunAt.chunk 4 [⟨.tup [], []⟩, ⟨.tup [], []⟩, ⟨.d (.bool false), []⟩, ⟨.d (.bool false), []⟩] (by kernel_rfl) ?_
                refine RunAt.done (by kernel_rfl) ?_
                refine kS_nrm ?_
                refine Runs.cond_f (by kernel_rfl) ?_
                refine Runs.skip ?_
                refine kS_nrm ?_
                refine Runs.ops ?_
                refine RunAt.chunk 4 [⟨.d (.int .i64 at11), []⟩, ⟨.d (.int .i64 (z_2.Bytes.length : Int)), []⟩, ⟨.d (.int .i64 (IntKind.wrap .i64 (at11 + (z_2.Bytes.length : Int)))), []⟩, ⟨.d (.int .i64 (IntKind.wrap .i64 (at11 + (z_2.Bytes.length : Int)))), []⟩] (by kernel_rfl) ?_
                refine RunAt.done (by kernel_rfl) ?_
                refine kB_nrm ?_
                refine kS_nrm ?_
                refine Runs.ops ?_
                refine RunAt.chunk 3 [⟨.d (.int .i64 i13), []⟩, ⟨.d (.int .i64 (IntKind.wrap .i64 (i13 + 1))), []⟩, ⟨.d (.int .i64 (IntKind.wrap .i64 (i13 + 1))), []⟩] (by kernel_rfl) ?_
                refine RunAt.done (by kernel_rfl) ?_
                obtain rfl := Option.some.inj h
                exact ⟨rfl, (), (Canon.same (by kernel_rfl) (Canon.nil (by kernel_rfl)))⟩
  | false =>
    replace h := ite_f hb_1 h
    refine Runs.cond_f (by kernel_rfl) ?_
    refine Runs.exit ?_
    refine kS_exit ?_
    obtain rfl := Option.some.inj h
    exact ⟨nofun, rfl, (), (Canon.nil (by kernel_rfl))⟩
theorem hansomlaw23_DataCut_ok (seg_ : Int) (off_ : Int) (b_ : (List Int)) (r : Bool) (h : hansomlaw23_DataCut seg_ off_ b_ = some r) : Runs L F10.body ⟨tmOf [.d (.int .i64 seg_), .d (.int .u16 off_), .d (.sl (List.map (D.int .u8) b_))] 0, updW (fun _ => none) []⟩ (hansomlaw23_DataCut_Q seg_ off_ b_ r) := by
  unfold hansomlaw23_DataCut at h
  refine Runs.seq ?_
  refine Runs.ops ?_
  refine RunAt.chunk 1 [⟨.d (.bool false), []⟩] (by kernel_rfl) ?_
  refine RunAt.done (by kernel_rfl) ?_
  refine kS_nrm ?_
  refine Runs.seq ?_
  refine Runs.ops ?_
  refine RunAt.chunk 4 [⟨.d (.int .i64 seg_), []⟩, ⟨.d (.int .i64 (bitsOp .and .i64 seg_ 63)), []⟩, ⟨.d (.int .i64 (IntKind.wrap .i64 ((bitsOp .and .i64 seg_ 63) + 1))), []⟩, ⟨.d (.int .i64 (IntKind.wrap .i64 ((bitsOp .and .i64 seg_ 63) + 1))), []⟩] (by kernel_rfl) ?_
  refine RunAt.done (by kernel_rfl) ?_
  refine kS_nrm ?_
  refine Runs.seq ?_
  refine Runs.ops ?_
  refine RunAt.chunk 2 [⟨.ref [18] 0 0 (List.map (D.int .u8) ([] : List Int)).length 1, [([18], some (.arr (List.map (D.int .u8) ([] : List Int)) 0 false))]⟩, ⟨.ref [18] 0 0 (List.map (D.int .u8) ([] : List Int)).length 1, []⟩] (by kernel_rfl) ?_
  refine RunAt.done (by kernel_rfl) ?_
  refine kS_nrm ?_
  refine Runs.seq ?_
  refine Runs.seq ?_
  refine Runs.ops ?_
  refine RunAt.chunk 1 [⟨.d (.int .i64 0), []⟩] (by kernel_rfl) ?_
  refine RunAt.done (by kernel_rfl) ?_
  refine kS_nrm ?_
  refine Runs.block ?_
  obtain ⟨e_1, he_1, h⟩ := bind_s h
  refine Runs.loop (fun x : ((List Int) × Int) => hansomlaw23_DataCut_l10 x.1 off_ b_ (IntKind.wrap .i64 ((bitsOp .and .i64 seg_ 63) + 1)) x.2) (fun (x : ((List Int) × Int)) (g : Nat) => hansomlaw23_DataCut_h10 x.1 off_ b_ (IntKind.wrap .i64 ((bitsOp .and .i64 seg_ 63) + 1)) x.2 g) (hansomlaw23_DataCut_P10 seg_ off_ b_ off_ b_ (IntKind.wrap .i64 ((bitsOp .and .i64 seg_ 63) + 1))) (fun x g r hr => hansomlaw23_DataCut_l10_ok seg_ off_ b_ x.1 off_ b_ (IntKind.wrap .i64 ((bitsOp .and .i64 seg_ 63) + 1)) x.2 g r hr) 0 he_1 (Canon.nil (by kernel_rfl)) ?_
  rintro ⟨o, s⟩ hp
  obtain ⟨ho, g_1, hk_1⟩ := hp
  have ho' : o = .exit 0 := ho
  subst ho'
  refine kB_hit ?_
  refine kS_nrm ?_
  refine Runs.canon _ hk_1 ?_
  refine Runs.seq ?_
  refine Runs.ops ?_
  refine RunAt.chunk 4 [⟨.ref [18] g_1 0 (List.map (D.int .u8) e_1).length 1, []⟩, ⟨.d (.int .u16 off_), []⟩, ⟨.d (.int .i64 (IntKind.wrap .i64 off_)), []⟩, ⟨.d (.int .i64 (Int.tmod (IntKind.wrap .i64 off_) 3001)), []⟩] (by kernel_rfl) ?_
  obtain ⟨z_1, hz_1, h⟩ := bind_s h
  refine RunAt.cut (some 41) (.subsl 1 false true false) [] none [.ref [18] g_1 0 (List.map (D.int .u8) e_1).length 1, .d (.int .i64 (Int.tmod (IntKind.wrap .i64 off_) 3001))] (.ref [18] g_1 (0 + (0 : Int).toNat) (((Int.tmod (IntKind.wrap .i64 off_) 3001)).toNat - (0 : Int).toNat) 1) [] (by kernel_rfl) (by kernel_rfl) (by kernel_rfl) (cut_subFT (e := (D.int .u8)) (l := e_1) hz_1 rfl) ?_
  refine RunAt.chunk 1 [⟨.ref [18] g_1 (0 + (0 : Int).toNat) (((Int.tmod (IntKind.wrap .i64 off_) 3001)).toNat - (0 : Int).toNat) 1, []⟩] (by kernel_rfl) ?_
  refine RunAt.done (by kernel_rfl) ?_
  refine kS_nrm ?_
  refine Runs.seq ?_
  refine Runs.ops ?_
  refine RunAt.chunk 1 [⟨.d (.int .i64 0), []⟩] (by kernel_rfl) ?_
  refine RunAt.done (by kernel_rfl) ?_
  refine kS_nrm ?_
  refine Runs.seq ?_
  refine Runs.ops ?_
  refine RunAt.chunk 4 [⟨.d (.int .i64 (IntKind.wrap .i64 ((bitsOp .and .i64 seg_ 63) + 1))), []⟩, ⟨.d (.int .u16 off_), []⟩, ⟨.d (.int .u16 (bitsOp .and .u16 off_ 4095)), []⟩, ⟨.ref [18] g_1 (0 + (0 : Int).toNat) (((Int.tmod (IntKind.wrap .i64 off_) 3001)).toNat - (0 : Int).toNat) 1, []⟩] (by kernel_rfl) ?_
  obtain ⟨r_1, hr_1, h⟩ := bind_s h
  have hc_1 := data_Cut_L (IntKind.wrap .i64 ((bitsOp .and .i64 seg_ 63) + 1)) (bitsOp .and .u16 off_ 4095) z_1 r_1 hr_1
  refine RunAt.cut (some 46) (.callf 53) [] none [.d (.int .i64 (IntKind.wrap .i64 ((bitsOp .and .i64 seg_ 63) + 1))), .d (.int .u16 (bitsOp .and .u16 off_ 4095)), .ref [18] g_1 (0 + (0 : Int).toNat) (((Int.tmod (IntKind.wrap .i64 off_) 3001)).toNat - (0 : Int).toNat) 1] (.d (.sl (List.map Data.d r_1))) [([18], some (.arr (List.map (D.int .u8) e_1) g_1 true))] (by kernel_rfl) (by kernel_rfl) (by kernel_rfl) (cut_call (call_of (ws := [([18], some (.arr (List.map (D.int .u8) e_1) g_1 true))]) (us := [([18], some (.arr (List.map (D.int .u8) e_1) g_1 true))]) (by kernel_rfl) (gives_cons (ws := []) (give_same (by kernel_rfl)) (gives_cons (ws := []) (give_same (by kernel_rfl)) (gives_cons (ws := [([18], some (.arr (List.map (D.int .u8) e_1) g_1 true))]) (give_sub (e := (D.int .u8)) (l := e_1) (fz := false) hz_1 (by kernel_rfl) (by kernel_rfl)) gives_nil))) hc_1 (by kernel_rfl) (by kernel_rfl))) ?_
  refine RunAt.chunk 1 [⟨.d (.sl (List.map Data.d r_1)), []⟩] (by kernel_rfl) ?_
  refine RunAt.done (by kernel_rfl) ?_
  refine kS_nrm ?_
  refine Runs.seq ?_
  refine Runs.seq ?_
  refine Runs.ops ?_
  refine RunAt.chunk 1 [⟨.d (.int .i64 0), []⟩] (by kernel_rfl) ?_
  refine RunAt.done (by kernel_rfl) ?_
  refine kS_nrm ?_
  refine Runs.block ?_
  obtain ⟨e_2, he_2, h⟩ := bind_s h
  refine Runs.loop (fun x : (Int × Int) => hansomlaw23_DataCut_l39 off_ (IntKind.wrap .i64 ((bitsOp .and .i64 seg_ 63) + 1)) z_1 x.1 r_1 x.2) (fun (x : (Int × Int)) (g : Unit) => hansomlaw23_DataCut_h39 off_ (IntKind.wrap .i64 ((bitsOp .and .i64 seg_ 63) + 1)) z_1 x.1 r_1 x.2) (hansomlaw23_DataCut_P39 seg_ off_ b_ off_ (IntKind.wrap .i64 ((bitsOp .and .i64 seg_ 63) + 1)) z_1 r_1) (fun x g r hr => hansomlaw23_DataCut_l39_ok seg_ off_ b_ off_ (IntKind.wrap .i64 ((bitsOp .and .i64 seg_ 63) + 1)) z_1 x.1 r_1 x.2  r hr) () he_2 (Canon.cons (frz_sub (e := (D.int .u8)) (l := e_1) (id := [18]) (v := g_1) (n := 1) (fz := true) hz_1 (by kernel_rfl) (by kernel_rfl)) (Canon.nil (by kernel_rfl))) ?_
  rintro ⟨o, s⟩ hp
  cases e_2 with
  | inl e_3 =>
    obtain ⟨ho, hf⟩ := hp
    have ho' : o = .ret := ho
    subst ho'
    refine kB_ret ?_
    refine kS_ret ?_
    obtain rfl := Option.some.inj h
    exact ⟨Out.ret_ne, hf⟩
  | inr e_4 =>
    obtain ⟨ho, g_2, hk_2⟩ := hp
    have ho' : o = .exit 2 := ho
    subst ho'
    refine kB_hit ?_
    refine kS_nrm ?_
    refine Runs.canon _ hk_2 ?_
    refine Runs.seq ?_
    refine Runs.ops ?_
    obtain ⟨r_2, hr_2, h⟩ := bind_s h
    have hc_2 := hansomlaw23_awake_L r_2 hr_2
    refine RunAt.cut (some 126) (.callf 42) [] none [] (.d (.bool r_2)) [] (by kernel_rfl) (by kernel_rfl) (by kernel_rfl) (cut_call (call_of (ws := []) (us := []) (by kernel_rfl) (by kernel_rfl) hc_2 (by kernel_rfl) (by kernel_rfl))) ?_
    refine RunAt.chunk 1 [⟨.d (.bool r_2), []⟩] (by kernel_rfl) ?_
    cases hb_1 : (r_2 : Bool) with
    | true =>
      replace h := ite_t hb_1 h
      refine RunAt.chunk 2 [⟨.d (.int .i64 e_4), []⟩, ⟨.d (.sl (List.map (D.int .u8) z_1)), []⟩] (by kernel_rfl) ?_
      refine RunAt.cut (some 130) .lenL [] none [.d (.sl (List.map (D.int .u8) z_1))] (.d (.int .i64 (z_1.length : Int))) [] (by kernel_rfl) (by kernel_rfl) (by kernel_rfl) (cut_len _) ?_
      refine RunAt.chunk 3 [⟨.d (.bool (e_4 == (z_1.length : Int))), []⟩, ⟨.d (.bool (e_4 == (z_1.length : Int))), []⟩, ⟨.d (.bool (e_4 == (z_1.length : Int))), []⟩] (by kernel_rfl) ?_
      refine RunAt.done (by kernel_rfl) ?_
      refine kS_nrm ?_
      refine Runs.ret ?_
      obtain rfl := Option.some.inj h
      exact ⟨Out.ret_ne, (by kernel_rfl)⟩
    | false =>
      replace h := ite_f hb_1 h
      refine RunAt.chunk 6 [⟨.tup [], []⟩, ⟨.tup [], []⟩, ⟨.tup [], []⟩, ⟨.tup [], []⟩, ⟨.d (.bool false), []⟩, ⟨.d (.bool false), []⟩] (by kernel_rfl) ?_
      refine RunAt.done (by kernel_rfl) ?_
      refine kS_nrm ?_
      refine Runs.ret ?_
      obtain rfl := Option.some.inj h
      exact ⟨Out.ret_ne, (by kernel_rfl)⟩
theorem hansomlaw23_DataCut_L (seg_ : Int) (off_ : Int) (b_ : (List Int)) (r : Bool) (h : hansomlaw23_DataCut seg_ off_ b_ = some r) : L 10 [.d (.int .i64 seg_), .d (.int .u16 off_), .d (.sl (List.map (D.int .u8) b_))] = some (.d (.bool r), [.d (.int .i64 seg_), .d (.int .u16 off_), .d (.sl (List.map (D.int .u8) b_))]) := by
  obtain ⟨p, ⟨hne, hf⟩, hr⟩ := hansomlaw23_DataCut_ok seg_ off_ b_ r h
  obtain ⟨k, hk⟩ := run_of (F := F10) (args := [.d (.int .i64 seg_), .d (.int .u16 off_), .d (.sl (List.map (D.int .u8) b_))]) (ap := [.d (.int .i64 seg_), .d (.int .u16 off_), .d (.sl (List.map (D.int .u8) b_))]) (bx0 := updW (fun _ => none) []) rfl rfl (by kernel_rfl) ⟨p, ⟨hne, hf⟩, hr⟩
  exact lim_run (k := k) rfl hk
end Go.Es.Dat
