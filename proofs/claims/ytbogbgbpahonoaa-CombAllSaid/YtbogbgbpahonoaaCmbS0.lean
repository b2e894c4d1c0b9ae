/- The interpreter answers as plain Lean does: part 1. No condition. -/
import Derived.Test.YtbogbgbpahonoaaCmbF
import Derived.Test.YtbogbgbpahonoaaCmbP
import Derived.KernelRfl
set_option linter.unusedVariables false
set_option linter.unusedSimpArgs false
set_option maxRecDepth 100000
set_option maxHeartbeats 4000000
namespace Go.Es.Cmb
def hansomlaw40_near_Q (s_ : SegDef) (r : SegDef) (p : Out × St) : Prop := (∀ i, p.1 ≠ .exit i) ∧ finF F49 [.d (SegDef.d s_)] p.2 = some (.d (SegDef.d r), [.d (SegDef.d s_)])
theorem hansomlaw40_near_ok (s_ : SegDef) (r : SegDef) (h : hansomlaw40_near s_ = some r) : Runs L F49.body ⟨tmOf [.d (SegDef.d s_)] 0, updW (fun _ => none) []⟩ (hansomlaw40_near_Q s_ r) := by
  unfold hansomlaw40_near at h
  refine Runs.seq ?_
  refine Runs.ops ?_
  refine RunAt.chunk 2 [⟨.ptr [1] 0 0, [([1], some (.cells [.d (.int .i64 s_.Align), .d (.int .i64 s_.Combine), .d (.int .u16 s_.Frame), .d (.int .u8 s_.Offset), .d (.int .i64 s_.Len), .d (.int .i64 s_.Name), .d (.int .i64 s_.Class), .d (.int .i64 s_.Overlay)] 0))]⟩, ⟨.ptr [2] 0 0, [([2], some (.cells [.d (.int .i64 0), .d (.int .i64 0), .d (.int .u16 0), .d (.int .u8 0), .d (.int .i64 0), .d (.int .i64 0), .d (.int .i64 0), .d (.int .i64 0)] 0))]⟩] (by kernel_rfl) ?_
  refine RunAt.done (by kernel_rfl) ?_
  refine kS_nrm ?_
  refine Runs.seq ?_
  refine Runs.ops ?_
  refine RunAt.chunk 8 [⟨.ptr [1] 0 0, []⟩, ⟨.d (.int .i64 s_.Align), []⟩, ⟨.d (.int .i64 (bitsOp .and .i64 s_.Align 255)), []⟩, ⟨.d (.int .i64 (Int.tmod (bitsOp .and .i64 s_.Align 255) 5)), []⟩, ⟨.ref [7] 0 0 (List.map (D.int .i64) ([0, 2, 5, 6] : List Int)).length 1, [([7], some (.arr (List.map (D.int .i64) ([0, 2, 5, 6] : List Int)) 0 false))]⟩, ⟨.ptr [1] 0 1, []⟩, ⟨.d (.int .i64 s_.Combine), []⟩, ⟨.d (.int .i64 (bitsOp .and .i64 s_.Combine 3)), []⟩] (by kernel_rfl) ?_
  obtain ⟨z_1, hz_1, h⟩ := bind_s h
  refine RunAt.cut (some 11) (.iaddrS 1) [] none [.ref [7] 0 0 (List.map (D.int .i64) ([0, 2, 5, 6] : List Int)).length 1, .d (.int .i64 (bitsOp .and .i64 s_.Combine 3))] (.eref [7] 0 (0 + ((bitsOp .and .i64 s_.Combine 3)).toNat) 0) [] (by kernel_rfl) (by kernel_rfl) (by kernel_rfl) (cut_atR (e := (D.int .i64)) (l := ([0, 2, 5, 6] : List Int)) hz_1 rfl) ?_
  refine RunAt.cut (some 12) (.load none) [] none [.eref [7] 0 (0 + ((bitsOp .and .i64 s_.Combine 3)).toNat) 0] (.d (.int .i64 z_1)) [] (by kernel_rfl) (by kernel_rfl) (by kernel_rfl) (cut_loadR (e := (D.int .i64)) (l := ([0, 2, 5, 6] : List Int)) (fz := false) (y := z_1) (by kernel_rfl) hz_1 (by kernel_rfl) (by kernel_rfl)) ?_
  refine RunAt.chunk 5 [⟨.ptr [1] 0 4, []⟩, ⟨.d (.int .i64 s_.Len), []⟩, ⟨.d (.int .i64 (bitsOp .and .i64 s_.Len 32767)), []⟩, ⟨.d (.agg [.int .i64 (Int.tmod (bitsOp .and .i64 s_.Align 255) 5), .int .i64 z_1, .int .u16 0, .int .u8 0, .int .i64 (bitsOp .and .i64 s_.Len 32767), .int .i64 0, .int .i64 0, .int .i64 0]), []⟩, ⟨.tup [], [([2], some (.cells [.d (.int .i64 (Int.tmod (bitsOp .and .i64 s_.Align 255) 5)), .d (.int .i64 z_1), .d (.int .u16 0), .d (.int .u8 0), .d (.int .i64 (bitsOp .and .i64 s_.Len 32767)), .d (.int .i64 0), .d (.int .i64 0), .d (.int .i64 0)] 0))]⟩] (by kernel_rfl) ?_
  refine RunAt.done (by kernel_rfl) ?_
  refine kS_nrm ?_
  refine Runs.seq ?_
  refine Runs.seq ?_
  refine Runs.ops ?_
  refine RunAt.chunk 5 [⟨.ptr [1] 0 4, []⟩, ⟨.d (.int .i64 s_.Len), []⟩, ⟨.d (.int .i64 (shrI .i64 s_.Len 15)), []⟩, ⟨.d (.int .i64 (bitsOp .and .i64 (shrI .i64 s_.Len 15) 7)), []⟩, ⟨.d (.bool (decide ((bitsOp .and .i64 (shrI .i64 s_.Len 15) 7) > 0))), []⟩] (by kernel_rfl) ?_
  refine RunAt.done (by kernel_rfl) ?_
  refine kS_nrm ?_
  cases hb_1 : ((decide ((bitsOp .and .i64 (shrI .i64 s_.Len 15) 7) > 0)) : Bool) with
  | true =>
    replace h := ite_t hb_1 h
    refine Runs.cond_t (by kernel_rfl) ?_
    refine Runs.ops ?_
    refine RunAt.chunk 5 [⟨.ptr [1] 0 4, []⟩, ⟨.d (.int .i64 s_.Len), []⟩, ⟨.d (.int .i64 (bitsOp .and .i64 s_.Len 63)), []⟩, ⟨.ptr [2] 0 4, []⟩, ⟨.tup [], [([2], some (.cells [.d (.int .i64 (Int.tmod (bitsOp .and .i64 s_.Align 255) 5)), .d (.int .i64 z_1), .d (.int .u16 0), .d (.int .u8 0), .d (.int .i64 (bitsOp .and .i64 s_.Len 63)), .d (.int .i64 0), .d (.int .i64 0), .d (.int .i64 0)] 0))]⟩] (by kernel_rfl) ?_
    refine RunAt.done (by kernel_rfl) ?_
    refine kS_nrm ?_
    refine Runs.seq ?_
    refine Runs.seq ?_
    refine Runs.ops ?_
    refine RunAt.chunk 3 [⟨.ptr [2] 0 0, []⟩, ⟨.d (.int .i64 (Int.tmod (bitsOp .and .i64 s_.Align 255) 5)), []⟩, ⟨.d (.bool ((Int.tmod (bitsOp .and .i64 s_.Align 255) 5) == 0)), []⟩] (by kernel_rfl) ?_
    refine RunAt.done (by kernel_rfl) ?_
    refine kS_nrm ?_
    cases hb_2 : (((Int.tmod (bitsOp .and .i64 s_.Align 255) 5) == 0) : Bool) with
    | true =>
      replace h := ite_t hb_2 h
      refine Runs.cond_t (by kernel_rfl) ?_
      refine Runs.ops ?_
      refine RunAt.chunk 8 [⟨.ptr [1] 0 2, []⟩, ⟨.d (.int .u16 s_.Frame), []⟩, ⟨.ptr [1] 0 3, []⟩, ⟨.d (.int .u8 s_.Offset), []⟩, ⟨.ptr [2] 0 2, []⟩, ⟨.tup [], [([2], some (.cells [.d (.int .i64 (Int.tmod (bitsOp .and .i64 s_.Align 255) 5)), .d (.int .i64 z_1), .d (.int .u16 s_.Frame), .d (.int .u8 0), .d (.int .i64 (bitsOp .and .i64 s_.Len 63)), .d (.int .i64 0), .d (.int .i64 0), .d (.int .i64 0)] 0))]⟩, ⟨.ptr [2] 0 3, []⟩, ⟨.tup [], [([2], some (.cells [.d (.int .i64 (Int.tmod (bitsOp .and .i64 s_.Align 255) 5)), .d (.int .i64 z_1), .d (.int .u16 s_.Frame), .d (.int .u8 s_.Offset), .d (.int .i64 (bitsOp .and .i64 s_.Len 63)), .d (.int .i64 0), .d (.int .i64 0), .d (.int .i64 0)] 0))]⟩] (by kernel_rfl) ?_
      refine RunAt.done (by kernel_rfl) ?_
      refine kS_nrm ?_
      refine Runs.seq ?_
      refine Runs.ops ?_
      refine RunAt.chunk 2 [⟨.d (.agg [.int .i64 (Int.tmod (bitsOp .and .i64 s_.Align 255) 5), .int .i64 z_1, .int .u16 s_.Frame, .int .u8 s_.Offset, .int .i64 (bitsOp .and .i64 s_.Len 63), .int .i64 0, .int .i64 0, .int .i64 0]), []⟩, ⟨.tup [], [([2], some (.cells [.d (.int .i64 (Int.tmod (bitsOp .and .i64 s_.Align 255) 5)), .d (.int .i64 z_1), .d (.int .u16 s_.Frame), .d (.int .u8 s_.Offset), .d (.int .i64 (bitsOp .and .i64 s_.Len 63)), .d (.int .i64 0), .d (.int .i64 0), .d (.int .i64 0)] 0))]⟩] (by kernel_rfl) ?_
      refine RunAt.done (by kernel_rfl) ?_
      refine kS_nrm ?_
      refine Runs.ret ?_
      obtain rfl := Option.some.inj h
      exact ⟨Out.ret_ne, (by kernel_rfl)⟩
    | false =>
      replace h := ite_f hb_2 h
      refine Runs.cond_f (by kernel_rfl) ?_
      refine Runs.skip ?_
      refine kS_nrm ?_
      refine Runs.seq ?_
      refine Runs.ops ?_
      refine RunAt.chunk 2 [⟨.d (.agg [.int .i64 (Int.tmod (bitsOp .and .i64 s_.Align 255) 5), .int .i64 z_1, .int .u16 0, .int .u8 0, .int .i64 (bitsOp .and .i64 s_.Len 63), .int .i64 0, .int .i64 0, .int .i64 0]), []⟩, ⟨.tup [], [([2], some (.cells [.d (.int .i64 (Int.tmod (bitsOp .and .i64 s_.Align 255) 5)), .d (.int .i64 z_1), .d (.int .u16 0), .d (.int .u8 0), .d (.int .i64 (bitsOp .and .i64 s_.Len 63)), .d (.int .i64 0), .d (.int .i64 0), .d (.int .i64 0)] 0))]⟩] (by kernel_rfl) ?_
      refine RunAt.done (by kernel_rfl) ?_
      refine kS_nrm ?_
      refine Runs.ret ?_
      obtain rfl := Option.some.inj h
      exact ⟨Out.ret_ne, (by kernel_rfl)⟩
  | false =>
    replace h := ite_f hb_1 h
    refine Runs.cond_f (by kernel_rfl) ?_
    refine Runs.skip ?_
    refine kS_nrm ?_
    refine Runs.seq ?_
    refine Runs.seq ?_
    refine Runs.ops ?_
    refine RunAt.chunk 3 [⟨.ptr [2] 0 0, []⟩, ⟨.d (.int .i64 (Int.tmod (bitsOp .and .i64 s_.Align 255) 5)), []⟩, ⟨.d (.bool ((Int.tmod (bitsOp .and .i64 s_.Align 255) 5) == 0)), []⟩] (by kernel_rfl) ?_
    refine RunAt.done (by kernel_rfl) ?_
    refine kS_nrm ?_
    cases hb_3 : (((Int.tmod (bitsOp .and .i64 s_.Align 255) 5) == 0) : Bool) with
    | true =>
      replace h := ite_t hb_3 h
      refine Runs.cond_t (by kernel_rfl) ?_
      refine Runs.ops ?_
      refine RunAt.chunk 8 [⟨.ptr [1] 0 2, []⟩, ⟨.d (.int .u16 s_.Frame), []⟩, ⟨.ptr [1] 0 3, []⟩, ⟨.d (.int .u8 s_.Offset), []⟩, ⟨.ptr [2] 0 2, []⟩, ⟨.tup [], [([2], some (.cells [.d (.int .i64 (Int.tmod (bitsOp .and .i64 s_.Align 255) 5)), .d (.int .i64 z_1), .d (.int .u16 s_.Frame), .d (.int .u8 0), .d (.int .i64 (bitsOp .and .i64 s_.Len 32767)), .d (.int .i64 0), .d (.int .i64 0), .d (.int .i64 0)] 0))]⟩, ⟨.ptr [2] 0 3, []⟩, ⟨.tup [], [([2], some (.cells [.d (.int .i64 (Int.tmod (bitsOp .and .i64 s_.Align 255) 5)), .d (.int .i64 z_1), .d (.int .u16 s_.Frame), .d (.int .u8 s_.Offset), .d (.int .i64 (bitsOp .and .i64 s_.Len 32767)), .d (.int .i64 0), .d (.int .i64 0), .d (.int .i64 0)] 0))]⟩] (by kernel_rfl) ?_
      refine RunAt.done (by kernel_rfl) ?_
      refine kS_nrm ?_
      refine Runs.seq ?_
      refine Runs.ops ?_
      refine RunAt.chunk 2 [⟨.d (.agg [.int .i64 (Int.tmod (bitsOp .and .i64 s_.Align 255) 5), .int .i64 z_1, .int .u16 s_.Frame, .int .u8 s_.Offset, .int .i64 (bitsOp .and .i64 s_.Len 32767), .int .i64 0, .int .i64 0, .int .i64 0]), []⟩, ⟨.tup [], [([2], some (.cells [.d (.int .i64 (Int.tmod (bitsOp .and .i64 s_.Align 255) 5)), .d (.int .i64 z_1), .d (.int .u16 s_.Frame), .d (.int .u8 s_.Offset), .d (.int .i64 (bitsOp .and .i64 s_.Len 32767)), .d (.int .i64 0), .d (.int .i64 0), .d (.int .i64 0)] 0))]⟩] (by kernel_rfl) ?_
      refine RunAt.done (by kernel_rfl) ?_
      refine kS_nrm ?_
      refine Runs.ret ?_
      obtain rfl := Option.some.inj h
      exact ⟨Out.ret_ne, (by kernel_rfl)⟩
    | false =>
      replace h := ite_f hb_3 h
      refine Runs.cond_f (by kernel_rfl) ?_
      refine Runs.skip ?_
      refine kS_nrm ?_
      refine Runs.seq ?_
      refine Runs.ops ?_
      refine RunAt.chunk 2 [⟨.d (.agg [.int .i64 (Int.tmod (bitsOp .and .i64 s_.Align 255) 5), .int .i64 z_1, .int .u16 0, .int .u8 0, .int .i64 (bitsOp .and .i64 s_.Len 32767), .int .i64 0, .int .i64 0, .int .i64 0]), []⟩, ⟨.tup [], [([2], some (.cells [.d (.int .i64 (Int.tmod (bitsOp .and .i64 s_.Align 255) 5)), .d (.int .i64 z_1), .d (.int .u16 0), .d (.int .u8 0), .d (.int .i64 (bitsOp .and .i64 s_.Len 32767)), .d (.int .i64 0), .d (.int .i64 0), .d (.int .i64 0)] 0))]⟩] (by kernel_rfl) ?_
      refine RunAt.done (by kernel_rfl) ?_
      refine kS_nrm ?_
      refine Runs.ret ?_
      obtain rfl := Option.some.inj h
      exact ⟨Out.ret_ne, (by kernel_rfl)⟩
theorem hansomlaw40_near_L (s_ : SegDef) (r : SegDef) (h : hansomlaw40_near s_ = some r) : L 49 [.d (SegDef.d s_)] = some (.d (SegDef.d r), [.d (SegDef.d s_)]) := by
  obtain ⟨p, ⟨hne, hf⟩, hr⟩ := hansomlaw40_near_ok s_ r h
  obtain ⟨k, hk⟩ := run_of (F := F49) (args := [.d (SegDef.d s_)]) (ap := [.d (SegDef.d s_)]) (bx0 := updW (fun _ => none) []) rfl rfl (by kernel_rfl) ⟨p, ⟨hne, hf⟩, hr⟩
  exact lim_run (k := k) rfl hk
def slices_Clone_LComb_Q (s_ : List Comb) (r : (List Comb)) (p : Out × St) : Prop := (∀ i, p.1 ≠ .exit i) ∧ finF F73 [.d (.sl (List.map Comb.d s_))] p.2 = some (.arr false 8 (List.map Comb.d r), [.d (.sl (List.map Comb.d s_))])
theorem slices_Clone_LComb_ok_cons (x_ : Comb) (r_ : List Comb) (r : (List Comb)) (h : ((grow 88 ([] : List Comb) (x_ :: r_)).bind fun z_1 => some z_1) = some r) : Runs L F73.body ⟨tmOf [.d (.sl (List.map Comb.d (x_ :: r_)))] 0, fun _ => none⟩ (slices_Clone_LComb_Q (x_ :: r_) r) := by
  refine Runs.seq ?_
  refine Runs.ops ?_
  refine RunAt.chunk 1 [⟨.nils, []⟩] (by kernel_rfl) ?_
  refine RunAt.done (by kernel_rfl) ?_
  refine kS_nrm ?_
  refine Runs.seq ?_
  refine Runs.seq ?_
  refine Runs.ops ?_
  refine RunAt.chunk 2 [⟨.d (.sl (List.map Comb.d (x_ :: r_))), []⟩, ⟨.d (.bool false), []⟩] (by kernel_rfl) ?_
  refine RunAt.done (by kernel_rfl) ?_
  refine kS_nrm ?_
  refine Runs.cond_f (by kernel_rfl) ?_
  refine Runs.skip ?_
  refine kS_nrm ?_
  refine Runs.seq ?_
  refine Runs.ops ?_
  refine RunAt.chunk 2 [⟨.ref [5] 0 0 (List.map Comb.d ([] : List Comb)).length 8, [([5], some (.arr (List.map Comb.d ([] : List Comb)) 0 false))]⟩, ⟨.d (.sl (List.map Comb.d (x_ :: r_))), []⟩] (by kernel_rfl) ?_
  obtain ⟨z_1, hz_1, h⟩ := bind_s h
  refine RunAt.cut (some 7) (.append 8 88 false) [] none [.ref [5] 0 0 (List.map Comb.d ([] : List Comb)).length 8, .d (.sl (List.map Comb.d (x_ :: r_)))] (.ref [5] 1 0 (List.map Comb.d z_1).length 8) [([5], some (.arr (List.map Comb.d z_1) 1 false))] (by kernel_rfl) (by kernel_rfl) (by kernel_rfl) (cut_appR (e := Comb.d) (l := ([] : List Comb)) (fz := false) (ws := []) (ap_data _) (fun _ => rfl) hz_1 (by kernel_rfl) (by kernel_rfl) rfl) ?_
  refine RunAt.chunk 1 [⟨.ref [5] 1 0 (List.map Comb.d z_1).length 8, []⟩] (by kernel_rfl) ?_
  refine RunAt.done (by kernel_rfl) ?_
  refine kS_nrm ?_
  refine Runs.ret ?_
  obtain rfl := Option.some.inj h
  exact ⟨Out.ret_ne, (fin_of (rs := [.ref [5] 1 0 (List.map Comb.d z_1).length 8]) (by kernel_rfl) (by kernel_rfl) (outs_own (id := [5]) (v := 1) (fz := false) (es := List.map Comb.d z_1) (by kernel_rfl) (by decide) rfl outs_nil) (gives_cons (give_same (by kernel_rfl)) gives_nil))⟩
theorem slices_Clone_LComb_ok_nil  (r : (List Comb)) (h : (some ([] : List Comb)) = some r) : Runs L F73.body ⟨tmOf [.nils] 0, fun _ => none⟩ (slices_Clone_LComb_Q ([] : List Comb) r) := by
  refine Runs.seq ?_
  refine Runs.ops ?_
  refine RunAt.chunk 1 [⟨.nils, []⟩] (by kernel_rfl) ?_
  refine RunAt.done (by kernel_rfl) ?_
  refine kS_nrm ?_
  refine Runs.seq ?_
  refine Runs.seq ?_
  refine Runs.ops ?_
  refine RunAt.chunk 2 [⟨.nils, []⟩, ⟨.d (.bool true), []⟩] (by kernel_rfl) ?_
  refine RunAt.done (by kernel_rfl) ?_
  refine kS_nrm ?_
  refine Runs.cond_t (by kernel_rfl) ?_
  refine Runs.seq ?_
  refine Runs.ops ?_
  refine RunAt.chunk 1 [⟨.nils, []⟩] (by kernel_rfl) ?_
  refine RunAt.done (by kernel_rfl) ?_
  refine kS_nrm ?_
  refine Runs.seq ?_
  refine Runs.gcons (own_nil Comb.d (v := 0) (by kernel_rfl) (by kernel_rfl)) ?_
  refine Runs.gnil ?_
  refine kS_nrm ?_
  refine Runs.ret ?_
  refine kS_ret ?_
  obtain rfl := Option.some.inj h
  exact ⟨Out.ret_ne, (fin_of (rs := [.ref [2] 0 0 (List.map Comb.d ([] : List Comb)).length 8]) (by kernel_rfl) (by kernel_rfl) (outs_own (id := [2]) (v := 0) (fz := false) (es := List.map Comb.d ([] : List Comb)) (by kernel_rfl) (by decide) rfl outs_nil) (gives_cons (give_same (by kernel_rfl)) gives_nil))⟩
theorem slices_Clone_LComb_ok_empt  (r : (List Comb)) (h : ((grow 88 ([] : List Comb) ([] : List Comb)).bind fun z_1 => some z_1) = some r) : Runs L F73.body ⟨tmOf [.empt] 0, fun _ => none⟩ (slices_Clone_LComb_Q ([] : List Comb) r) := by
  refine Runs.seq ?_
  refine Runs.ops ?_
  refine RunAt.chunk 1 [⟨.nils, []⟩] (by kernel_rfl) ?_
  refine RunAt.done (by kernel_rfl) ?_
  refine kS_nrm ?_
  refine Runs.seq ?_
  refine Runs.seq ?_
  refine Runs.ops ?_
  refine RunAt.chunk 2 [⟨.empt, []⟩, ⟨.d (.bool false), []⟩] (by kernel_rfl) ?_
  refine RunAt.done (by kernel_rfl) ?_
  refine kS_nrm ?_
  refine Runs.cond_f (by kernel_rfl) ?_
  refine Runs.skip ?_
  refine kS_nrm ?_
  refine Runs.seq ?_
  refine Runs.ops ?_
  refine RunAt.chunk 2 [⟨.ref [5] 0 0 (List.map Comb.d ([] : List Comb)).length 8, [([5], some (.arr (List.map Comb.d ([] : List Comb)) 0 false))]⟩, ⟨.empt, []⟩] (by kernel_rfl) ?_
  obtain ⟨z_1, hz_1, h⟩ := bind_s h
  refine RunAt.cut (some 7) (.append 8 88 false) [] none [.ref [5] 0 0 (List.map Comb.d ([] : List Comb)).length 8, .empt] (.ref [5] 1 0 (List.map Comb.d z_1).length 8) [([5], some (.arr (List.map Comb.d z_1) 1 false))] (by kernel_rfl) (by kernel_rfl) (by kernel_rfl) (cut_appR (e := Comb.d) (l := ([] : List Comb)) (fz := false) (ws := []) (ap_empt) (fun _ => rfl) hz_1 (by kernel_rfl) (by kernel_rfl) rfl) ?_
  refine RunAt.chunk 1 [⟨.ref [5] 1 0 (List.map Comb.d z_1).length 8, []⟩] (by kernel_rfl) ?_
  refine RunAt.done (by kernel_rfl) ?_
  refine kS_nrm ?_
  refine Runs.ret ?_
  obtain rfl := Option.some.inj h
  exact ⟨Out.ret_ne, (fin_of (rs := [.ref [5] 1 0 (List.map Comb.d z_1).length 8]) (by kernel_rfl) (by kernel_rfl) (outs_own (id := [5]) (v := 1) (fz := false) (es := List.map Comb.d z_1) (by kernel_rfl) (by decide) rfl outs_nil) (gives_cons (give_same (by kernel_rfl)) gives_nil))⟩
theorem slices_Clone_LComb_L (s_ : List Comb) (r : (List Comb)) (h : slices_Clone_LComb s_ = some r) : L 73 [.d (.sl (List.map Comb.d s_))] = some (.arr false 8 (List.map Comb.d r), [.d (.sl (List.map Comb.d s_))]) := by
  unfold slices_Clone_LComb at h
  cases s_ with
  | cons x_ r_ =>
    obtain ⟨p, ⟨hne, hf⟩, hr⟩ := slices_Clone_LComb_ok_cons x_ r_ r (by rw [h]; rfl)
    obtain ⟨k, hk⟩ := run_of_cons (F := F73) (x := Comb.d x_) (xs := List.map Comb.d r_) (ap := [.d (.sl (List.map Comb.d (x_ :: r_)))]) (bx0 := fun _ => none) rfl (by kernel_rfl) ⟨p, ⟨hne, hf⟩, hr⟩
    exact lim_run (k := k) rfl hk
  | nil =>
    obtain rfl : r = [] := by unfold grow at h; split at h <;> first | (cases h; rfl) | cases h
    obtain ⟨p, ⟨hne, hf⟩, hr⟩ := slices_Clone_LComb_ok_nil [] (by rfl)
    obtain ⟨q, ⟨hne', hf'⟩, hr'⟩ := slices_Clone_LComb_ok_empt [] (by rw [h]; rfl)
    obtain ⟨k, hk⟩ := run_of_empty (F := F73) (n := 8) rfl rfl ⟨p, ⟨hne, hf⟩, hr⟩ ⟨q, ⟨hne', hf'⟩, hr'⟩
    exact lim_run (k := k) rfl hk
def comb_joins_Q (c_ : Comb) (name_ : (List UInt8)) (class_ : (List UInt8)) (d_ : SegDef) (r : Bool) (p : Out × St) : Prop := (∀ i, p.1 ≠ .exit i) ∧ finF F75 [.d (Comb.d c_), .d (.str name_), .d (.str class_), .d (SegDef.d d_)] p.2 = some (.d (.bool r), [.d (Comb.d c_), .d (.str name_), .d (.str class_), .d (SegDef.d d_)])
theorem comb_joins_ok (c_ : Comb) (name_ : (List UInt8)) (class_ : (List UInt8)) (d_ : SegDef) (r : Bool) (h : comb_joins c_ name_ class_ d_ = some r) : Runs L F75.body ⟨tmOf [.d (Comb.d c_), .d (.str name_), .d (.str class_), .d (SegDef.d d_)] 0, updW (fun _ => none) []⟩ (comb_joins_Q c_ name_ class_ d_ r) := by
  unfold comb_joins at h
  refine Runs.seq ?_
  refine Runs.ops ?_
  refine RunAt.chunk 3 [⟨.ptr [4] 0 0, [([4], some (.cells [.d (.str c_.Name), .d (.str c_.Class), .d (.int .i64 c_.Align), .d (.int .i64 c_.Combine), .d (.int .u16 c_.Frame), .d (.int .u8 c_.Offset), .d (.int .i64 c_.Len), .d (.sl (List.map Chunk.d c_.Chunks))] 0))]⟩, ⟨.ptr [7] 0 0, [([7], some (.cells [.d (.int .i64 d_.Align), .d (.int .i64 d_.Combine), .d (.int .u16 d_.Frame), .d (.int .u8 d_.Offset), .d (.int .i64 d_.Len), .d (.int .i64 d_.Name), .d (.int .i64 d_.Class), .d (.int .i64 d_.Overlay)] 0))]⟩, ⟨.d (.bool false), []⟩] (by kernel_rfl) ?_
  refine RunAt.done (by kernel_rfl) ?_
  refine kS_nrm ?_
  refine Runs.seq ?_
  refine Runs.ops ?_
  refine RunAt.chunk 4 [⟨.ptr [7] 0 0, []⟩, ⟨.d (.int .i64 d_.Align), []⟩, ⟨.d (.bool (d_.Align != 0)), []⟩, ⟨.d (.bool (d_.Align != 0)), []⟩] (by kernel_rfl) ?_
  cases hb_1 : ((d_.Align != 0) : Bool) with
  | true =>
    replace h := ite_t hb_1 h
    refine RunAt.chunk 5 [⟨.ptr [4] 0 2, []⟩, ⟨.d (.int .i64 c_.Align), []⟩, ⟨.d (.bool (c_.Align != 0)), []⟩, ⟨.d (.bool (c_.Align != 0)), []⟩, ⟨.d (.bool (c_.Align != 0)), []⟩] (by kernel_rfl) ?_
    cases hb_2 : ((c_.Align != 0) : Bool) with
    | true =>
      replace h := ite_t hb_2 h
      refine RunAt.chunk 5 [⟨.ptr [7] 0 1, []⟩, ⟨.d (.int .i64 d_.Combine), []⟩, ⟨.d (.bool (d_.Combine != 0)), []⟩, ⟨.d (.bool (d_.Combine != 0)), []⟩, ⟨.d (.bool (d_.Combine != 0)), []⟩] (by kernel_rfl) ?_
      cases hb_3 : ((d_.Combine != 0) : Bool) with
      | true =>
        replace h := ite_t hb_3 h
        refine RunAt.chunk 7 [⟨.ptr [4] 0 3, []⟩, ⟨.d (.int .i64 c_.Combine), []⟩, ⟨.ptr [7] 0 1, []⟩, ⟨.d (.int .i64 d_.Combine), []⟩, ⟨.d (.bool (c_.Combine == d_.Combine)), []⟩, ⟨.d (.bool (c_.Combine == d_.Combine)), []⟩, ⟨.d (.bool (c_.Combine == d_.Combine)), []⟩] (by kernel_rfl) ?_
        cases hb_4 : ((c_.Combine == d_.Combine) : Bool) with
        | true =>
          replace h := ite_t hb_4 h
          refine RunAt.chunk 6 [⟨.ptr [4] 0 0, []⟩, ⟨.d (.str c_.Name), []⟩, ⟨.d (.str name_), []⟩, ⟨.d (.bool (c_.Name == name_)), []⟩, ⟨.d (.bool (c_.Name == name_)), []⟩, ⟨.d (.bool (c_.Name == name_)), []⟩] (by kernel_rfl) ?_
          cases hb_5 : ((c_.Name == name_) : Bool) with
          | true =>
            replace h := ite_t hb_5 h
            refine RunAt.chunk 6 [⟨.ptr [4] 0 1, []⟩, ⟨.d (.str c_.Class), []⟩, ⟨.d (.str class_), []⟩, ⟨.d (.bool (c_.Class == class_)), []⟩, ⟨.d (.bool (c_.Class == class_)), []⟩, ⟨.d (.bool (c_.Class == class_)), []⟩] (by kernel_rfl) ?_
            refine RunAt.done (by kernel_rfl) ?_
            refine kS_nrm ?_
            refine Runs.ret ?_
            obtain rfl := Option.some.inj h
            exact ⟨Out.ret_ne, (by kernel_rfl)⟩
          | false =>
            replace h := ite_f hb_5 h
            refine RunAt.chunk 6 [⟨.tup [], []⟩, ⟨.tup [], []⟩, ⟨.tup [], []⟩, ⟨.tup [], []⟩, ⟨.d (.bool false), []⟩, ⟨.d (.bool false), []⟩] (by kernel_rfl) ?_
            refine RunAt.done (by kernel_rfl) ?_
            refine kS_nrm ?_
            refine Runs.ret ?_
            obtain rfl := Option.some.inj h
            exact ⟨Out.ret_ne, (by kernel_rfl)⟩
        | false =>
          replace h := ite_f hb_4 h
          refine RunAt.chunk 12 [⟨.tup [], []⟩, ⟨.tup [], []⟩, ⟨.tup [], []⟩, ⟨.tup [], []⟩, ⟨.d (.bool false), []⟩, ⟨.d (.bool false), []⟩, ⟨.tup [], []⟩, ⟨.tup [], []⟩, ⟨.tup [], []⟩, ⟨.tup [], []⟩, ⟨.d (.bool false), []⟩, ⟨.d (.bool false), []⟩] (by kernel_rfl) ?_
          refine RunAt.done (by kernel_rfl) ?_
          refine kS_nrm ?_
          refine Runs.ret ?_
          obtain rfl := Option.some.inj h
          exact ⟨Out.ret_ne, (by kernel_rfl)⟩
      | false =>
        replace h := ite_f hb_3 h
        refine RunAt.chunk 19 [⟨.tup [], []⟩, ⟨.tup [], []⟩, ⟨.tup [], []⟩, ⟨.tup [], []⟩, ⟨.tup [], []⟩, ⟨.d (.bool false), []⟩, ⟨.d (.bool false), []⟩, ⟨.tup [], []⟩, ⟨.tup [], []⟩, ⟨.tup [], []⟩, ⟨.tup [], []⟩, ⟨.d (.bool false), []⟩, ⟨.d (.bool false), []⟩, ⟨.tup [], []⟩, ⟨.tup [], []⟩, ⟨.tup [], []⟩, ⟨.tup [], []⟩, ⟨.d (.bool false), []⟩, ⟨.d (.bool false), []⟩] (by kernel_rfl) ?_
        refine RunAt.done (by kernel_rfl) ?_
        refine kS_nrm ?_
        refine Runs.ret ?_
        obtain rfl := Option.some.inj h
        exact ⟨Out.ret_ne, (by kernel_rfl)⟩
    | false =>
      replace h := ite_f hb_2 h
      refine RunAt.chunk 24 [⟨.tup [], []⟩, ⟨.tup [], []⟩, ⟨.tup [], []⟩, ⟨.d (.bool false), []⟩, ⟨.d (.bool false), []⟩, ⟨.tup [], []⟩, ⟨.tup [], []⟩, ⟨.tup [], []⟩, ⟨.tup [], []⟩, ⟨.tup [], []⟩, ⟨.d (.bool false), []⟩, ⟨.d (.bool false), []⟩, ⟨.tup [], []⟩, ⟨.tup [], []⟩, ⟨.tup [], []⟩, ⟨.tup [], []⟩, ⟨.d (.bool false), []⟩, ⟨.d (.bool false), []⟩, ⟨.tup [], []⟩, ⟨.tup [], []⟩, ⟨.tup [], []⟩, ⟨.tup [], []⟩, ⟨.d (.bool false), []⟩, ⟨.d (.bool false), []⟩] (by kernel_rfl) ?_
      refine RunAt.done (by kernel_rfl) ?_
      refine kS_nrm ?_
      refine Runs.ret ?_
      obtain rfl := Option.some.inj h
      exact ⟨Out.ret_ne, (by kernel_rfl)⟩
  | false =>
    replace h := ite_f hb_1 h
    refine RunAt.chunk 29 [⟨.tup [], []⟩, ⟨.tup [], []⟩, ⟨.tup [], []⟩, ⟨.d (.bool false), []⟩, ⟨.d (.bool false), []⟩, ⟨.tup [], []⟩, ⟨.tup [], []⟩, ⟨.tup [], []⟩, ⟨.d (.bool false), []⟩, ⟨.d (.bool false), []⟩, ⟨.tup [], []⟩, ⟨.tup [], []⟩, ⟨.tup [], []⟩, ⟨.tup [], []⟩, ⟨.tup [], []⟩, ⟨.d (.bool false), []⟩, ⟨.d (.bool false), []⟩, ⟨.tup [], []⟩, ⟨.tup [], []⟩, ⟨.tup [], []⟩, ⟨.tup [], []⟩, ⟨.d (.bool false), []⟩, ⟨.d (.bool false), []⟩, ⟨.tup [], []⟩, ⟨.tup [], []⟩, ⟨.tup [], []⟩, ⟨.tup [], []⟩, ⟨.d (.bool false), []⟩, ⟨.d (.bool false), []⟩] (by kernel_rfl) ?_
    refine RunAt.done (by kernel_rfl) ?_
    refine kS_nrm ?_
    refine Runs.ret ?_
    obtain rfl := Option.some.inj h
    exact ⟨Out.ret_ne, (by kernel_rfl)⟩
theorem comb_joins_L (c_ : Comb) (name_ : (List UInt8)) (class_ : (List UInt8)) (d_ : SegDef) (r : Bool) (h : comb_joins c_ name_ class_ d_ = some r) : L 75 [.d (Comb.d c_), .d (.str name_), .d (.str class_), .d (SegDef.d d_)] = some (.d (.bool r), [.d (Comb.d c_), .d (.str name_), .d (.str class_), .d (SegDef.d d_)]) := by
  obtain ⟨p, ⟨hne, hf⟩, hr⟩ := comb_joins_ok c_ name_ class_ d_ r h
  obtain ⟨k, hk⟩ := run_of (F := F75) (args := [.d (Comb.d c_), .d (.str name_), .d (.str class_), .d (SegDef.d d_)]) (ap := [.d (Comb.d c_), .d (.str name_), .d (.str class_), .d (SegDef.d d_)]) (bx0 := updW (fun _ => none) []) rfl rfl (by kernel_rfl) ⟨p, ⟨hne, hf⟩, hr⟩
  exact lim_run (k := k) rfl hk
def comb_Add_1_Q (c_ : Comb) (a1_ : (List UInt8)) (a2_ : (List UInt8)) (a3_ : SegDef) (r : Bool) (p : Out × St) : Prop := (∀ i, p.1 ≠ .exit i) ∧ finF F74 [.d (Comb.d c_), .ptr [1] 0 0, .ptr [2] 0 0, .ptr [3] 0 0] p.2 = some (.d (.bool r), [.d (Comb.d c_), .ptr [.d (.str a1_)], .ptr [.d (.str a2_)], .ptr [.d (.int .i64 a3_.Align), .d (.int .i64 a3_.Combine), .d (.int .u16 a3_.Frame), .d (.int .u8 a3_.Offset), .d (.int .i64 a3_.Len), .d (.int .i64 a3_.Name), .d (.int .i64 a3_.Class), .d (.int .i64 a3_.Overlay)]])
theorem comb_Add_1_ok (c_ : Comb) (a1_ : (List UInt8)) (a2_ : (List UInt8)) (a3_ : SegDef) (r : Bool) (h : comb_Add_1 c_ a1_ a2_ a3_ = some r) : Runs L F74.body ⟨tmOf [.d (Comb.d c_), .ptr [1] 0 0, .ptr [2] 0 0, .ptr [3] 0 0] 0, updW (fun _ => none) [([1], some (.cells [.d (.str a1_)] 0)), ([2], some (.cells [.d (.str a2_)] 0)), ([3], some (.cells [.d (.int .i64 a3_.Align), .d (.int .i64 a3_.Combine), .d (.int .u16 a3_.Frame), .d (.int .u8 a3_.Offset), .d (.int .i64 a3_.Len), .d (.int .i64 a3_.Name), .d (.int .i64 a3_.Class), .d (.int .i64 a3_.Overlay)] 0))]⟩ (comb_Add_1_Q c_ a1_ a2_ a3_ r) := by
  unfold comb_Add_1 at h
  refine Runs.seq ?_
  refine Runs.ops ?_
  refine RunAt.chunk 2 [⟨.ptr [4] 0 0, [([4], some (.cells [.d (.str c_.Name), .d (.str c_.Class), .d (.int .i64 c_.Align), .d (.int .i64 c_.Combine), .d (.int .u16 c_.Frame), .d (.int .u8 c_.Offset), .d (.int .i64 c_.Len), .d (.sl (List.map Chunk.d c_.Chunks))] 0))]⟩, ⟨.d (.bool false), []⟩] (by kernel_rfl) ?_
  refine RunAt.done (by kernel_rfl) ?_
  refine kS_nrm ?_
  refine Runs.seq ?_
  refine Runs.ops ?_
  refine RunAt.chunk 4 [⟨.d (Comb.d c_), []⟩, ⟨.d (.str a1_), []⟩, ⟨.d (.str a2_), []⟩, ⟨.d (SegDef.d a3_), []⟩] (by kernel_rfl) ?_
  obtain ⟨r_1, hr_1, h⟩ := bind_s h
  have hc_1 := comb_joins_L c_ a1_ a2_ a3_ r_1 hr_1
  refine RunAt.cut (some 10) (.callf 75) [] none [.d (Comb.d c_), .d (.str a1_), .d (.str a2_), .d (SegDef.d a3_)] (.d (.bool r_1)) [] (by kernel_rfl) (by kernel_rfl) (by kernel_rfl) (cut_call (call_of (ws := []) (us := []) (by kernel_rfl) (by kernel_rfl) hc_1 (by kernel_rfl) (by kernel_rfl))) ?_
  refine RunAt.chunk 1 [⟨.d (.bool r_1), []⟩] (by kernel_rfl) ?_
  refine RunAt.done (by kernel_rfl) ?_
  refine kS_nrm ?_
  refine Runs.ret ?_
  obtain rfl := Option.some.inj h
  exact ⟨Out.ret_ne, (by kernel_rfl)⟩
theorem comb_Add_1_L (c_ : Comb) (a1_ : (List UInt8)) (a2_ : (List UInt8)) (a3_ : SegDef) (r : Bool) (h : comb_Add_1 c_ a1_ a2_ a3_ = some r) : L 74 [.d (Comb.d c_), .ptr [.d (.str a1_)], .ptr [.d (.str a2_)], .ptr [.d (.int .i64 a3_.Align), .d (.int .i64 a3_.Combine), .d (.int .u16 a3_.Frame), .d (.int .u8 a3_.Offset), .d (.int .i64 a3_.Len), .d (.int .i64 a3_.Name), .d (.int .i64 a3_.Class), .d (.int .i64 a3_.Overlay)]] = some (.d (.bool r), [.d (Comb.d c_), .ptr [.d (.str a1_)], .ptr [.d (.str a2_)], .ptr [.d (.int .i64 a3_.Align), .d (.int .i64 a3_.Combine), .d (.int .u16 a3_.Frame), .d (.int .u8 a3_.Offset), .d (.int .i64 a3_.Len), .d (.int .i64 a3_.Name), .d (.int .i64 a3_.Class), .d (.int .i64 a3_.Overlay)]]) := by
  obtain ⟨p, ⟨hne, hf⟩, hr⟩ := comb_Add_1_ok c_ a1_ a2_ a3_ r h
  obtain ⟨k, hk⟩ := run_of (F := F74) (args := [.d (Comb.d c_), .ptr [.d (.str a1_)], .ptr [.d (.str a2_)], .ptr [.d (.int .i64 a3_.Align), .d (.int .i64 a3_.Combine), .d (.int .u16 a3_.Frame), .d (.int .u8 a3_.Offset), .d (.int .i64 a3_.Len), .d (.int .i64 a3_.Name), .d (.int .i64 a3_.Class), .d (.int .i64 a3_.Overlay)]]) (ap := [.d (Comb.d c_), .ptr [1] 0 0, .ptr [2] 0 0, .ptr [3] 0 0]) (bx0 := updW (fun _ => none) [([1], some (.cells [.d (.str a1_)] 0)), ([2], some (.cells [.d (.str a2_)] 0)), ([3], some (.cells [.d (.int .i64 a3_.Align), .d (.int .i64 a3_.Combine), .d (.int .u16 a3_.Frame), .d (.int .u8 a3_.Offset), .d (.int .i64 a3_.Len), .d (.int .i64 a3_.Name), .d (.int .i64 a3_.Class), .d (.int .i64 a3_.Overlay)] 0))]) rfl rfl (by kernel_rfl) ⟨p, ⟨hne, hf⟩, hr⟩
  exact lim_run (k := k) rfl hk
def slices_IndexFunc_LComb_comb_Add_1_h6 (b_0_1 : (List UInt8)) (b_1_1 : (List UInt8)) (b_2_1 : SegDef) (s0 : (List Comb)) (t7 : Int) (t8 : Int) : St := ⟨tab [(0, .d (.sl (List.map Comb.d s0))), (1, .fn 74 [.ptr [0, 1] 0 0, .ptr [1, 1] 0 0, .ptr [2, 1] 0 0]), (7, .d (.int .i64 t7)), (8, .d (.int .i64 t8))], tabB [([0, 1], some (.cells [.d (.str b_0_1)] 0)), ([1, 1], some (.cells [.d (.str b_1_1)] 0)), ([2, 1], some (.cells [.d (.int .i64 b_2_1.Align), .d (.int .i64 b_2_1.Combine), .d (.int .u16 b_2_1.Frame), .d (.int .u8 b_2_1.Offset), .d (.int .i64 b_2_1.Len), .d (.int .i64 b_2_1.Name), .d (.int .i64 b_2_1.Class), .d (.int .i64 b_2_1.Overlay)] 0))]⟩
def slices_IndexFunc_LComb_comb_Add_1_h25 (b_0_1 : (List UInt8)) (b_1_1 : (List UInt8)) (b_2_1 : SegDef) : St := ⟨tab [], tabB [([0, 1], some (.cells [.d (.str b_0_1)] 0)), ([1, 1], some (.cells [.d (.str b_1_1)] 0)), ([2, 1], some (.cells [.d (.int .i64 b_2_1.Align), .d (.int .i64 b_2_1.Combine), .d (.int .u16 b_2_1.Frame), .d (.int .u8 b_2_1.Offset), .d (.int .i64 b_2_1.Len), .d (.int .i64 b_2_1.Name), .d (.int .i64 b_2_1.Class), .d (.int .i64 b_2_1.Overlay)] 0))]⟩
def slices_IndexFunc_LComb_comb_Add_1_Q (s_ : (List Comb)) (a_1_0 : (List UInt8)) (a_1_1 : (List UInt8)) (a_1_2 : SegDef) (r : (Int × (List UInt8) × (List UInt8) × SegDef)) (p : Out × St) : Prop := (∀ i, p.1 ≠ .exit i) ∧ finF F71 [.d (.sl (List.map Comb.d s_)), .fn 74 [.ptr [0, 1] 0 0, .ptr [1, 1] 0 0, .ptr [2, 1] 0 0]] p.2 = some (.d (.int .i64 r.1), [.d (.sl (List.map Comb.d s_)), .fn 74 [.ptr [.d (.str r.2.1)], .ptr [.d (.str r.2.2.1)], .ptr [.d (.int .i64 r.2.2.2.Align), .d (.int .i64 r.2.2.2.Combine), .d (.int .u16 r.2.2.2.Frame), .d (.int .u8 r.2.2.2.Offset), .d (.int .i64 r.2.2.2.Len), .d (.int .i64 r.2.2.2.Name), .d (.int .i64 r.2.2.2.Class), .d (.int .i64 r.2.2.2.Overlay)]]])
def slices_IndexFunc_LComb_comb_Add_1_P6 (s_ : (List Comb)) (a_1_0 : (List UInt8)) (a_1_1 : (List UInt8)) (a_1_2 : SegDef) (b_0_1 : (List UInt8)) (b_1_1 : (List UInt8)) (b_2_1 : SegDef) (s0 : (List Comb)) (t7 : Int) (e : ((Int × (List UInt8) × (List UInt8) × SegDef) ⊕ Unit)) (p : Out × St) : Prop := match e with
  | .inl x => p.1 = .ret ∧ finF F71 [.d (.sl (List.map Comb.d s_)), .fn 74 [.ptr [0, 1] 0 0, .ptr [1, 1] 0 0, .ptr [2, 1] 0 0]] p.2 = some (.d (.int .i64 x.1), [.d (.sl (List.map Comb.d s_)), .fn 74 [.ptr [.d (.str x.2.1)], .ptr [.d (.str x.2.2.1)], .ptr [.d (.int .i64 x.2.2.2.Align), .d (.int .i64 x.2.2.2.Combine), .d (.int .u16 x.2.2.2.Frame), .d (.int .u8 x.2.2.2.Offset), .d (.int .i64 x.2.2.2.Len), .d (.int .i64 x.2.2.2.Name), .d (.int .i64 x.2.2.2.Class), .d (.int .i64 x.2.2.2.Overlay)]]])
  | .inr x => p.1 = .exit 0 ∧ ∃ g : Unit, Canon [] [] [[0, 1], [1, 1], [2, 1]] p.2 (slices_IndexFunc_LComb_comb_Add_1_h25 b_0_1 b_1_1 b_2_1)
theorem slices_IndexFunc_LComb_comb_Add_1_l6_ok (s_ : (List Comb)) (a_1_0 : (List UInt8)) (a_1_1 : (List UInt8)) (a_1_2 : SegDef) (b_0_1 : (List UInt8)) (b_1_1 : (List UInt8)) (b_2_1 : SegDef) (s0 : (List Comb)) (t7 : Int) (t8 : Int) (r : (Lp Int ((Int × (List UInt8) × (List UInt8) × SegDef) ⊕ Unit))) (h : slices_IndexFunc_LComb_comb_Add_1_l6 b_0_1 b_1_1 b_2_1 s0 t7 t8 = some r) : Runs L F71l6 (slices_IndexFunc_LComb_comb_Add_1_h6 b_0_1 b_1_1 b_2_1 s0 t7 t8) (LQ [] [0, 1, 7, 8] [[0, 1], [1, 1], [2, 1]] (fun (x : Int) (g : Unit) => slices_IndexFunc_LComb_comb_Add_1_h6 b_0_1 b_1_1 b_2_1 s0 t7 x) (slices_IndexFunc_LComb_comb_Add_1_P6 s_ a_1_0 a_1_1 a_1_2 b_0_1 b_1_1 b_2_1 s0 t7) r) := by
  unfold slices_IndexFunc_LComb_comb_Add_1_l6 at h
  refine Runs.seq ?_
  refine Runs.ops ?_
  refine RunAt.chunk 1 [⟨.d (.bool (decide (t8 < t7))), []⟩] (by kernel_rfl) ?_
  refine RunAt.done (by kernel_rfl) ?_
  refine kS_nrm ?_
  refine Runs.seq ?_
  cases hb_1 : ((decide (t8 < t7)) : Bool) with
  | true =>
    replace h := ite_t hb_1 h
    refine Runs.cond_t (by kernel_rfl) ?_
    refine Runs.skip ?_
    refine kS_nrm ?_
    refine Runs.seq ?_
    refine Runs.block ?_
    refine Runs.seq ?_
    refine Runs.ops ?_
    refine RunAt.chunk 2 [⟨.d (.int .i64 t8), []⟩, ⟨.d (.int .i64 t8), []⟩] (by kernel_rfl) ?_
    refine RunAt.done (by kernel_rfl) ?_
    refine kS_nrm ?_
    refine Runs.seq ?_
    refine Runs.ops ?_
    refine RunAt.chunk 3 [⟨.fn 74 [.ptr [0, 1] 0 0, .ptr [1, 1] 0 0, .ptr [2, 1] 0 0], []⟩, ⟨.d (.sl (List.map Comb.d s0)), []⟩, ⟨.d (.int .i64 t8), []⟩] (by kernel_rfl) ?_
    obtain ⟨z_1, hz_1, h⟩ := bind_s h
    refine RunAt.cut (some 14) (.iaddrS 8) [] none [.d (.sl (List.map Comb.d s0)), .d (.int .i64 t8)] (.elt (Comb.d z_1) 0) [] (by kernel_rfl) (by kernel_rfl) (by kernel_rfl) (cut_at hz_1 (fun _ => rfl)) ?_
    refine RunAt.chunk 1 [⟨.d (Comb.d z_1), []⟩] (by kernel_rfl) ?_
    obtain ⟨r_1, hr_1, h⟩ := bind_s h
    have hc_1 := comb_Add_1_L z_1 b_0_1 b_1_1 b_2_1 r_1 hr_1
    refine RunAt.cut (some 16) .callv [] none [.fn 74 [.ptr [0, 1] 0 0, .ptr [1, 1] 0 0, .ptr [2, 1] 0 0], .d (Comb.d z_1)] (.d (.bool r_1)) [([0, 1], some (.cells [.d (.str b_0_1)] 0)), ([1, 1], some (.cells [.d (.str b_1_1)] 0)), ([2, 1], some (.cells [.d (.int .i64 b_2_1.Align), .d (.int .i64 b_2_1.Combine), .d (.int .u16 b_2_1.Frame), .d (.int .u8 b_2_1.Offset), .d (.int .i64 b_2_1.Len), .d (.int .i64 b_2_1.Name), .d (.int .i64 b_2_1.Class), .d (.int .i64 b_2_1.Overlay)] 0))] (by kernel_rfl) (by kernel_rfl) (by kernel_rfl) (cut_callv (call_of (ws := []) (us := [([0, 1], some (.cells [.d (.str b_0_1)] 0)), ([1, 1], some (.cells [.d (.str b_1_1)] 0)), ([2, 1], some (.cells [.d (.int .i64 b_2_1.Align), .d (.int .i64 b_2_1.Combine), .d (.int .u16 b_2_1.Frame), .d (.int .u8 b_2_1.Offset), .d (.int .i64 b_2_1.Len), .d (.int .i64 b_2_1.Name), .d (.int .i64 b_2_1.Class), .d (.int .i64 b_2_1.Overlay)] 0))]) (by kernel_rfl) (by kernel_rfl) hc_1 (by kernel_rfl) (by kernel_rfl))) ?_
    refine RunAt.done (by kernel_rfl) ?_
    refine kS_nrm ?_
    cases hb_2 : (r_1 : Bool) with
    | true =>
      replace h := ite_t hb_2 h
      refine Runs.cond_t (by kernel_rfl) ?_
      refine Runs.seq ?_
      refine Runs.ops ?_
      refine RunAt.chunk 2 [⟨.d (.int .i64 t8), []⟩, ⟨.d (.int .i64 t8), []⟩] (by kernel_rfl) ?_
      refine RunAt.done (by kernel_rfl) ?_
      refine kS_nrm ?_
      refine Runs.ret ?_
      refine kB_ret ?_
      refine kS_ret ?_
      obtain rfl := Option.some.inj h
      exact ⟨nofun, rfl, (by kernel_rfl)⟩
    | false =>
      replace h := ite_f hb_2 h
      refine Runs.cond_f (by kernel_rfl) ?_
      refine Runs.skip ?_
      refine kB_nrm ?_
      refine kS_nrm ?_
      refine Runs.ops ?_
      refine RunAt.chunk 2 [⟨.d (.int .i64 (IntKind.wrap .i64 (t8 + 1))), []⟩, ⟨.d (.int .i64 (IntKind.wrap .i64 (t8 + 1))), []⟩] (by kernel_rfl) ?_
      refine RunAt.done (by kernel_rfl) ?_
      obtain rfl := Option.some.inj h
      exact ⟨rfl, (), (Canon.nil (by kernel_rfl))⟩
  | false =>
    replace h := ite_f hb_1 h
    refine Runs.cond_f (by kernel_rfl) ?_
    refine Runs.exit ?_
    refine kS_exit ?_
    obtain rfl := Option.some.inj h
    exact ⟨nofun, rfl, (), (Canon.nil (by kernel_rfl))⟩
theorem slices_IndexFunc_LComb_comb_Add_1_ok (s_ : (List Comb)) (a_1_0 : (List UInt8)) (a_1_1 : (List UInt8)) (a_1_2 : SegDef) (r : (Int × (List UInt8) × (List UInt8) × SegDef)) (h : slices_IndexFunc_LComb_comb_Add_1 s_ a_1_0 a_1_1 a_1_2 = some r) : Runs L F71.body ⟨tmOf [.d (.sl (List.map Comb.d s_)), .fn 74 [.ptr [0, 1] 0 0, .ptr [1, 1] 0 0, .ptr [2, 1] 0 0]] 0, updW (fun _ => none) [([0, 1], some (.cells [.d (.str a_1_0)] 0)), ([1, 1], some (.cells [.d (.str a_1_1)] 0)), ([2, 1], some (.cells [.d (.int .i64 a_1_2.Align), .d (.int .i64 a_1_2.Combine), .d (.int .u16 a_1_2.Frame), .d (.int .u8 a_1_2.Offset), .d (.int .i64 a_1_2.Len), .d (.int .i64 a_1_2.Name), .d (.int .i64 a_1_2.Class), .d (.int .i64 a_1_2.Overlay)] 0))]⟩ (slices_IndexFunc_LComb_comb_Add_1_Q s_ a_1_0 a_1_1 a_1_2 r) := by
  unfold slices_IndexFunc_LComb_comb_Add_1 at h
  refine Runs.seq ?_
  refine Runs.ops ?_
  refine RunAt.chunk 1 [⟨.d (.int .i64 0), []⟩] (by kernel_rfl) ?_
  refine RunAt.done (by kernel_rfl) ?_
  refine kS_nrm ?_
  refine Runs.seq ?_
  refine Runs.seq ?_
  refine Runs.ops ?_
  refine RunAt.chunk 1 [⟨.d (.sl (List.map Comb.d s_)), []⟩] (by kernel_rfl) ?_
  refine RunAt.cut (some 7) .lenL [] none [.d (.sl (List.map Comb.d s_))] (.d (.int .i64 (s_.length : Int))) [] (by kernel_rfl) (by kernel_rfl) (by kernel_rfl) (cut_len _) ?_
  refine RunAt.chunk 1 [⟨.d (.int .i64 0), []⟩] (by kernel_rfl) ?_
  refine RunAt.done (by kernel_rfl) ?_
  refine kS_nrm ?_
  refine Runs.block ?_
  obtain ⟨e_1, he_1, h⟩ := bind_s h
  refine Runs.loop (fun x : Int => slices_IndexFunc_LComb_comb_Add_1_l6 a_1_0 a_1_1 a_1_2 s_ (s_.length : Int) x) (fun (x : Int) (g : Unit) => slices_IndexFunc_LComb_comb_Add_1_h6 a_1_0 a_1_1 a_1_2 s_ (s_.length : Int) x) (slices_IndexFunc_LComb_comb_Add_1_P6 s_ a_1_0 a_1_1 a_1_2 a_1_0 a_1_1 a_1_2 s_ (s_.length : Int)) (fun x g r hr => slices_IndexFunc_LComb_comb_Add_1_l6_ok s_ a_1_0 a_1_1 a_1_2 a_1_0 a_1_1 a_1_2 s_ (s_.length : Int) x  r hr) () he_1 (Canon.nil (by kernel_rfl)) ?_
  rintro ⟨o, s⟩ hp
  cases e_1 with
  | inl e_2 =>
    obtain ⟨ho, hf⟩ := hp
    have ho' : o = .ret := ho
    subst ho'
    refine kB_ret ?_
    refine kS_ret ?_
    obtain rfl := Option.some.inj h
    exact ⟨Out.ret_ne, hf⟩
  | inr e_3 =>
    obtain ⟨ho, g_1, hk_1⟩ := hp
    have ho' : o = .exit 0 := ho
    subst ho'
    refine kB_hit ?_
    refine kS_nrm ?_
    refine Runs.canon _ hk_1 ?_
    refine Runs.seq ?_
    refine Runs.ops ?_
    refine RunAt.chunk 1 [⟨.d (.int .i64 (-1)), []⟩] (by kernel_rfl) ?_
    refine RunAt.done (by kernel_rfl) ?_
    refine kS_nrm ?_
    refine Runs.ret ?_
    obtain rfl := Option.some.inj h
    exact ⟨Out.ret_ne, (by kernel_rfl)⟩
theorem slices_IndexFunc_LComb_comb_Add_1_L (s_ : (List Comb)) (a_1_0 : (List UInt8)) (a_1_1 : (List UInt8)) (a_1_2 : SegDef) (r : (Int × (List UInt8) × (List UInt8) × SegDef)) (h : slices_IndexFunc_LComb_comb_Add_1 s_ a_1_0 a_1_1 a_1_2 = some r) : L 71 [.d (.sl (List.map Comb.d s_)), .fn 74 [.ptr [.d (.str a_1_0)], .ptr [.d (.str a_1_1)], .ptr [.d (.int .i64 a_1_2.Align), .d (.int .i64 a_1_2.Combine), .d (.int .u16 a_1_2.Frame), .d (.int .u8 a_1_2.Offset), .d (.int .i64 a_1_2.Len), .d (.int .i64 a_1_2.Name), .d (.int .i64 a_1_2.Class), .d (.int .i64 a_1_2.Overlay)]]] = some (.d (.int .i64 r.1), [.d (.sl (List.map Comb.d s_)), .fn 74 [.ptr [.d (.str r.2.1)], .ptr [.d (.str r.2.2.1)], .ptr [.d (.int .i64 r.2.2.2.Align), .d (.int .i64 r.2.2.2.Combine), .d (.int .u16 r.2.2.2.Frame), .d (.int .u8 r.2.2.2.Offset), .d (.int .i64 r.2.2.2.Len), .d (.int .i64 r.2.2.2.Name), .d (.int .i64 r.2.2.2.Class), .d (.int .i64 r.2.2.2.Overlay)]]]) := by
  obtain ⟨p, ⟨hne, hf⟩, hr⟩ := slices_IndexFunc_LComb_comb_Add_1_ok s_ a_1_0 a_1_1 a_1_2 r h
  obtain ⟨k, hk⟩ := run_of (F := F71) (args := [.d (.sl (List.map Comb.d s_)), .fn 74 [.ptr [.d (.str a_1_0)], .ptr [.d (.str a_1_1)], .ptr [.d (.int .i64 a_1_2.Align), .d (.int .i64 a_1_2.Combine), .d (.int .u16 a_1_2.Frame), .d (.int .u8 a_1_2.Offset), .d (.int .i64 a_1_2.Len), .d (.int .i64 a_1_2.Name), .d (.int .i64 a_1_2.Class), .d (.int .i64 a_1_2.Overlay)]]]) (ap := [.d (.sl (List.map Comb.d s_)), .fn 74 [.ptr [0, 1] 0 0, .ptr [1, 1] 0 0, .ptr [2, 1] 0 0]]) (bx0 := updW (fun _ => none) [([0, 1], some (.cells [.d (.str a_1_0)] 0)), ([1, 1], some (.cells [.d (.str a_1_1)] 0)), ([2, 1], some (.cells [.d (.int .i64 a_1_2.Align), .d (.int .i64 a_1_2.Combine), .d (.int .u16 a_1_2.Frame), .d (.int .u8 a_1_2.Offset), .d (.int .i64 a_1_2.Len), .d (.int .i64 a_1_2.Name), .d (.int .i64 a_1_2.Class), .d (.int .i64 a_1_2.Overlay)] 0))]) rfl rfl (by kernel_rfl) ⟨p, ⟨hne, hf⟩, hr⟩
  exact lim_run (k := k) rfl hk
def segs_Step_Q (align_ : Int) (r : Int) (p : Out × St) : Prop := (∀ i, p.1 ≠ .exit i) ∧ finF F70 [.d (.int .i64 align_)] p.2 = some (.d (.int .i64 r), [.d (.int .i64 align_)])
theorem segs_Step_ok (align_ : Int) (r : Int) (h : segs_Step align_ = some r) : Runs L F70.body ⟨tmOf [.d (.int .i64 align_)] 0, updW (fun _ => none) []⟩ (segs_Step_Q align_ r) := by
  unfold segs_Step at h
  refine Runs.seq ?_
  refine Runs.ops ?_
  refine RunAt.chunk 1 [⟨.d (.int .i64 0), []⟩] (by kernel_rfl) ?_
  refine RunAt.done (by kernel_rfl) ?_
  refine kS_nrm ?_
  refine Runs.seq ?_
  refine Runs.seq ?_
  refine Runs.ops ?_
  refine RunAt.chunk 1 [⟨.d (.int .i64 align_), []⟩] (by kernel_rfl) ?_
  refine RunAt.done (by kernel_rfl) ?_
  refine kS_nrm ?_
  refine Runs.block ?_
  refine Runs.seq ?_
  refine Runs.ops ?_
  refine RunAt.chunk 2 [⟨.d (.bool (align_ == 2)), []⟩, ⟨.d (.bool (align_ == 2)), []⟩] (by kernel_rfl) ?_
  refine RunAt.done (by kernel_rfl) ?_
  refine kS_nrm ?_
  cases hb_1 : ((align_ == 2) : Bool) with
  | true =>
    replace h := ite_t hb_1 h
    refine Runs.cond_t (by kernel_rfl) ?_
    refine Runs.seq ?_
    refine Runs.ops ?_
    refine RunAt.chunk 1 [⟨.d (.int .i64 2), []⟩] (by kernel_rfl) ?_
    refine RunAt.done (by kernel_rfl) ?_
    refine kS_nrm ?_
    refine Runs.ret ?_
    refine kB_ret ?_
    refine kS_ret ?_
    obtain rfl := Option.some.inj h
    exact ⟨Out.ret_ne, (by kernel_rfl)⟩
  | false =>
    replace h := ite_f hb_1 h
    refine Runs.cond_f (by kernel_rfl) ?_
    refine Runs.seq ?_
    refine Runs.ops ?_
    refine RunAt.chunk 2 [⟨.d (.bool (align_ == 3)), []⟩, ⟨.d (.bool (align_ == 3)), []⟩] (by kernel_rfl) ?_
    refine RunAt.done (by kernel_rfl) ?_
    refine kS_nrm ?_
    cases hb_2 : ((align_ == 3) : Bool) with
    | true =>
      replace h := ite_t hb_2 h
      refine Runs.cond_t (by kernel_rfl) ?_
      refine Runs.seq ?_
      refine Runs.ops ?_
      refine RunAt.chunk 1 [⟨.d (.int .i64 16), []⟩] (by kernel_rfl) ?_
      refine RunAt.done (by kernel_rfl) ?_
      refine kS_nrm ?_
      refine Runs.ret ?_
      refine kB_ret ?_
      refine kS_ret ?_
      obtain rfl := Option.some.inj h
      exact ⟨Out.ret_ne, (by kernel_rfl)⟩
    | false =>
      replace h := ite_f hb_2 h
      refine Runs.cond_f (by kernel_rfl) ?_
      refine Runs.seq ?_
      refine Runs.ops ?_
      refine RunAt.chunk 2 [⟨.d (.bool (align_ == 4)), []⟩, ⟨.d (.bool (align_ == 4)), []⟩] (by kernel_rfl) ?_
      refine RunAt.done (by kernel_rfl) ?_
      refine kS_nrm ?_
      cases hb_3 : ((align_ == 4) : Bool) with
      | true =>
        replace h := ite_t hb_3 h
        refine Runs.cond_t (by kernel_rfl) ?_
        refine Runs.seq ?_
        refine Runs.ops ?_
        refine RunAt.chunk 1 [⟨.d (.int .i64 256), []⟩] (by kernel_rfl) ?_
        refine RunAt.done (by kernel_rfl) ?_
        refine kS_nrm ?_
        refine Runs.ret ?_
        refine kB_ret ?_
        refine kS_ret ?_
        obtain rfl := Option.some.inj h
        exact ⟨Out.ret_ne, (by kernel_rfl)⟩
      | false =>
        replace h := ite_f hb_3 h
        refine Runs.cond_f (by kernel_rfl) ?_
        refine Runs.skip ?_
        refine kB_nrm ?_
        refine kS_nrm ?_
        refine Runs.seq ?_
        refine Runs.ops ?_
        refine RunAt.chunk 1 [⟨.d (.int .i64 1), []⟩] (by kernel_rfl) ?_
        refine RunAt.done (by kernel_rfl) ?_
        refine kS_nrm ?_
        refine Runs.ret ?_
        obtain rfl := Option.some.inj h
        exact ⟨Out.ret_ne, (by kernel_rfl)⟩
theorem segs_Step_L (align_ : Int) (r : Int) (h : segs_Step align_ = some r) : L 70 [.d (.int .i64 align_)] = some (.d (.int .i64 r), [.d (.int .i64 align_)]) := by
  obtain ⟨p, ⟨hne, hf⟩, hr⟩ := segs_Step_ok align_ r h
  obtain ⟨k, hk⟩ := run_of (F := F70) (args := [.d (.int .i64 align_)]) (ap := [.d (.int .i64 align_)]) (bx0 := updW (fun _ => none) []) rfl rfl (by kernel_rfl) ⟨p, ⟨hne, hf⟩, hr⟩
  exact lim_run (k := k) rfl hk
def bits_Up_Q (n_ : Int) (step_ : Int) (r : Int) (p : Out × St) : Prop := (∀ i, p.1 ≠ .exit i) ∧ finF F69 [.d (.int .i64 n_), .d (.int .i64 step_)] p.2 = some (.d (.int .i64 r), [.d (.int .i64 n_), .d (.int .i64 step_)])
theorem bits_Up_ok (n_ : Int) (step_ : Int) (r : Int) (h : bits_Up n_ step_ = some r) : Runs L F69.body ⟨tmOf [.d (.int .i64 n_), .d (.int .i64 step_)] 0, updW (fun _ => none) []⟩ (bits_Up_Q n_ step_ r) := by
  unfold bits_Up at h
  refine Runs.seq ?_
  refine Runs.ops ?_
  refine RunAt.chunk 1 [⟨.d (.int .i64 0), []⟩] (by kernel_rfl) ?_
  refine RunAt.done (by kernel_rfl) ?_
  refine kS_nrm ?_
  refine Runs.seq ?_
  refine Runs.seq ?_
  refine Runs.ops ?_
  refine RunAt.chunk 3 [⟨.d (.int .i64 step_), []⟩, ⟨.d (.bool (decide (step_ < 1))), []⟩, ⟨.d (.bool (decide (step_ < 1))), []⟩] (by kernel_rfl) ?_
  cases hb_1 : ((decide (step_ < 1)) : Bool) with
  | true =>
    replace h := ite_t hb_1 h
    refine RunAt.chunk 10 [⟨.tup [], []⟩, ⟨.tup [], []⟩, ⟨.d (.bool true), []⟩, ⟨.d (.bool true), []⟩, ⟨.tup [], []⟩, ⟨.tup [], []⟩, ⟨.tup [], []⟩, ⟨.tup [], []⟩, ⟨.tup [], []⟩, ⟨.d (.bool true), []⟩] (by kernel_rfl) ?_
    refine RunAt.done (by kernel_rfl) ?_
    refine kS_nrm ?_
    refine Runs.cond_t (by kernel_rfl) ?_
    refine Runs.ops ?_
    refine RunAt.chunk 1 [⟨.d (.int .i64 1), []⟩] (by kernel_rfl) ?_
    refine RunAt.done (by kernel_rfl) ?_
    refine kS_nrm ?_
    refine Runs.seq ?_
    refine Runs.ops ?_
    refine RunAt.chunk 4 [⟨.d (.int .i64 n_), []⟩, ⟨.d (.int .i64 (mxI n_ 0)), []⟩, ⟨.d (.int .i64 (mnI (mxI n_ 0) 16777216)), []⟩, ⟨.d (.int .i64 (mnI (mxI n_ 0) 16777216)), []⟩] (by kernel_rfl) ?_
    refine RunAt.done (by kernel_rfl) ?_
    refine kS_nrm ?_
    refine Runs.seq ?_
    refine Runs.ops ?_
    refine RunAt.chunk 8 [⟨.d (.int .i64 (mnI (mxI n_ 0) 16777216)), []⟩, ⟨.d (.int .i64 1), []⟩, ⟨.d (.int .i64 (IntKind.wrap .i64 ((mnI (mxI n_ 0) 16777216) + 1))), []⟩, ⟨.d (.int .i64 (IntKind.wrap .i64 ((IntKind.wrap .i64 ((mnI (mxI n_ 0) 16777216) + 1)) - 1))), []⟩, ⟨.d (.int .i64 1), []⟩, ⟨.d (.int .i64 (IntKind.wrap .i64 (1 - 1))), []⟩, ⟨.d (.int .i64 (bitsOp .andNot .i64 (IntKind.wrap .i64 ((IntKind.wrap .i64 ((mnI (mxI n_ 0) 16777216) + 1)) - 1)) (IntKind.wrap .i64 (1 - 1)))), []⟩, ⟨.d (.int .i64 (bitsOp .andNot .i64 (IntKind.wrap .i64 ((IntKind.wrap .i64 ((mnI (mxI n_ 0) 16777216) + 1)) - 1)) (IntKind.wrap .i64 (1 - 1)))), []⟩] (by kernel_rfl) ?_
    refine RunAt.done (by kernel_rfl) ?_
    refine kS_nrm ?_
    refine Runs.ret ?_
    obtain rfl := Option.some.inj h
    exact ⟨Out.ret_ne, (by kernel_rfl)⟩
  | false =>
    replace h := ite_f hb_1 h
    refine RunAt.chunk 4 [⟨.d (.int .i64 step_), []⟩, ⟨.d (.bool (decide (step_ > 4096))), []⟩, ⟨.d (.bool (decide (step_ > 4096))), []⟩, ⟨.d (.bool (decide (step_ > 4096))), []⟩] (by kernel_rfl) ?_
    cases hb_2 : ((decide (step_ > 4096)) : Bool) with
    | true =>
      replace h := ite_t hb_2 h
      refine RunAt.chunk 6 [⟨.tup [], []⟩, ⟨.tup [], []⟩, ⟨.tup [], []⟩, ⟨.tup [], []⟩, ⟨.tup [], []⟩, ⟨.d (.bool true), []⟩] (by kernel_rfl) ?_
      refine RunAt.done (by kernel_rfl) ?_
      refine kS_nrm ?_
      refine Runs.cond_t (by kernel_rfl) ?_
      refine Runs.ops ?_
      refine RunAt.chunk 1 [⟨.d (.int .i64 1), []⟩] (by kernel_rfl) ?_
      refine RunAt.done (by kernel_rfl) ?_
      refine kS_nrm ?_
      refine Runs.seq ?_
      refine Runs.ops ?_
      refine RunAt.chunk 4 [⟨.d (.int .i64 n_), []⟩, ⟨.d (.int .i64 (mxI n_ 0)), []⟩, ⟨.d (.int .i64 (mnI (mxI n_ 0) 16777216)), []⟩, ⟨.d (.int .i64 (mnI (mxI n_ 0) 16777216)), []⟩] (by kernel_rfl) ?_
      refine RunAt.done (by kernel_rfl) ?_
      refine kS_nrm ?_
      refine Runs.seq ?_
      refine Runs.ops ?_
      refine RunAt.chunk 8 [⟨.d (.int .i64 (mnI (mxI n_ 0) 16777216)), []⟩, ⟨.d (.int .i64 1), []⟩, ⟨.d (.int .i64 (IntKind.wrap .i64 ((mnI (mxI n_ 0) 16777216) + 1))), []⟩, ⟨.d (.int .i64 (IntKind.wrap .i64 ((IntKind.wrap .i64 ((mnI (mxI n_ 0) 16777216) + 1)) - 1))), []⟩, ⟨.d (.int .i64 1), []⟩, ⟨.d (.int .i64 (IntKind.wrap .i64 (1 - 1))), []⟩, ⟨.d (.int .i64 (bitsOp .andNot .i64 (IntKind.wrap .i64 ((IntKind.wrap .i64 ((mnI (mxI n_ 0) 16777216) + 1)) - 1)) (IntKind.wrap .i64 (1 - 1)))), []⟩, ⟨.d (.int .i64 (bitsOp .andNot .i64 (IntKind.wrap .i64 ((IntKind.wrap .i64 ((mnI (mxI n_ 0) 16777216) + 1)) - 1)) (IntKind.wrap .i64 (1 - 1)))), []⟩] (by kernel_rfl) ?_
      refine RunAt.done (by kernel_rfl) ?_
      refine kS_nrm ?_
      refine Runs.ret ?_
      obtain rfl := Option.some.inj h
      exact ⟨Out.ret_ne, (by kernel_rfl)⟩
    | false =>
      replace h := ite_f hb_2 h
      refine RunAt.chunk 6 [⟨.d (.int .i64 step_), []⟩, ⟨.d (.int .i64 step_), []⟩, ⟨.d (.int .i64 (IntKind.wrap .i64 (step_ - 1))), []⟩, ⟨.d (.int .i64 (bitsOp .and .i64 step_ (IntKind.wrap .i64 (step_ - 1)))), []⟩, ⟨.d (.bool ((bitsOp .and .i64 step_ (IntKind.wrap .i64 (step_ - 1))) != 0)), []⟩, ⟨.d (.bool ((bitsOp .and .i64 step_ (IntKind.wrap .i64 (step_ - 1))) != 0)), []⟩] (by kernel_rfl) ?_
      refine RunAt.done (by kernel_rfl) ?_
      refine kS_nrm ?_
      cases hb_3 : (((bitsOp .and .i64 step_ (IntKind.wrap .i64 (step_ - 1))) != 0) : Bool) with
      | true =>
        replace h := ite_t hb_3 h
        refine Runs.cond_t (by kernel_rfl) ?_
        refine Runs.ops ?_
        refine RunAt.chunk 1 [⟨.d (.int .i64 1), []⟩] (by kernel_rfl) ?_
        refine RunAt.done (by kernel_rfl) ?_
        refine kS_nrm ?_
        refine Runs.seq ?_
        refine Runs.ops ?_
        refine RunAt.chunk 4 [⟨.d (.int .i64 n_), []⟩, ⟨.d (.int .i64 (mxI n_ 0)), []⟩, ⟨.d (.int .i64 (mnI (mxI n_ 0) 16777216)), []⟩, ⟨.d (.int .i64 (mnI (mxI n_ 0) 16777216)), []⟩] (by kernel_rfl) ?_
        refine RunAt.done (by kernel_rfl) ?_
        refine kS_nrm ?_
        refine Runs.seq ?_
        refine Runs.ops ?_
        refine RunAt.chunk 8 [⟨.d (.int .i64 (mnI (mxI n_ 0) 16777216)), []⟩, ⟨.d (.int .i64 1), []⟩, ⟨.d (.int .i64 (IntKind.wrap .i64 ((mnI (mxI n_ 0) 16777216) + 1))), []⟩, ⟨.d (.int .i64 (IntKind.wrap .i64 ((IntKind.wrap .i64 ((mnI (mxI n_ 0) 16777216) + 1)) - 1))), []⟩, ⟨.d (.int .i64 1), []⟩, ⟨.d (.int .i64 (IntKind.wrap .i64 (1 - 1))), []⟩, ⟨.d (.int .i64 (bitsOp .andNot .i64 (IntKind.wrap .i64 ((IntKind.wrap .i64 ((mnI (mxI n_ 0) 16777216) + 1)) - 1)) (IntKind.wrap .i64 (1 - 1)))), []⟩, ⟨.d (.int .i64 (bitsOp .andNot .i64 (IntKind.wrap .i64 ((IntKind.wrap .i64 ((mnI (mxI n_ 0) 16777216) + 1)) - 1)) (IntKind.wrap .i64 (1 - 1)))), []⟩] (by kernel_rfl) ?_
        refine RunAt.done (by kernel_rfl) ?_
        refine kS_nrm ?_
        refine Runs.ret ?_
        obtain rfl := Option.some.inj h
        exact ⟨Out.ret_ne, (by kernel_rfl)⟩
      | false =>
        replace h := ite_f hb_3 h
        refine Runs.cond_f (by kernel_rfl) ?_
        refine Runs.skip ?_
        refine kS_nrm ?_
        refine Runs.seq ?_
        refine Runs.ops ?_
        refine RunAt.chunk 4 [⟨.d (.int .i64 n_), []⟩, ⟨.d (.int .i64 (mxI n_ 0)), []⟩, ⟨.d (.int .i64 (mnI (mxI n_ 0) 16777216)), []⟩, ⟨.d (.int .i64 (mnI (mxI n_ 0) 16777216)), []⟩] (by kernel_rfl) ?_
        refine RunAt.done (by kernel_rfl) ?_
        refine kS_nrm ?_
        refine Runs.seq ?_
        refine Runs.ops ?_
        refine RunAt.chunk 8 [⟨.d (.int .i64 (mnI (mxI n_ 0) 16777216)), []⟩, ⟨.d (.int .i64 step_), []⟩, ⟨.d (.int .i64 (IntKind.wrap .i64 ((mnI (mxI n_ 0) 16777216) + step_))), []⟩, ⟨.d (.int .i64 (IntKind.wrap .i64 ((IntKind.wrap .i64 ((mnI (mxI n_ 0) 16777216) + step_)) - 1))), []⟩, ⟨.d (.int .i64 step_), []⟩, ⟨.d (.int .i64 (IntKind.wrap .i64 (step_ - 1))), []⟩, ⟨.d (.int .i64 (bitsOp .andNot .i64 (IntKind.wrap .i64 ((IntKind.wrap .i64 ((mnI (mxI n_ 0) 16777216) + step_)) - 1)) (IntKind.wrap .i64 (step_ - 1)))), []⟩, ⟨.d (.int .i64 (bitsOp .andNot .i64 (IntKind.wrap .i64 ((IntKind.wrap .i64 ((mnI (mxI n_ 0) 16777216) + step_)) - 1)) (IntKind.wrap .i64 (step_ - 1)))), []⟩] (by kernel_rfl) ?_
        refine RunAt.done (by kernel_rfl) ?_
        refine kS_nrm ?_
        refine Runs.ret ?_
        obtain rfl := Option.some.inj h
        exact ⟨Out.ret_ne, (by kernel_rfl)⟩
theorem bits_Up_L (n_ : Int) (step_ : Int) (r : Int) (h : bits_Up n_ step_ = some r) : L 69 [.d (.int .i64 n_), .d (.int .i64 step_)] = some (.d (.int .i64 r), [.d (.int .i64 n_), .d (.int .i64 step_)]) := by
  obtain ⟨p, ⟨hne, hf⟩, hr⟩ := bits_Up_ok n_ step_ r h
  obtain ⟨k, hk⟩ := run_of (F := F69) (args := [.d (.int .i64 n_), .d (.int .i64 step_)]) (ap := [.d (.int .i64 n_), .d (.int .i64 step_)]) (bx0 := updW (fun _ => none) []) rfl rfl (by kernel_rfl) ⟨p, ⟨hne, hf⟩, hr⟩
  exact lim_run (k := k) rfl hk
def slices_Clone_LChunk_Q (s_ : List Chunk) (r : (List Chunk)) (p : Out × St) : Prop := (∀ i, p.1 ≠ .exit i) ∧ finF F81 [.d (.sl (List.map Chunk.d s_))] p.2 = some (.arr false 4 (List.map Chunk.d r), [.d (.sl (List.map Chunk.d s_))])
theorem slices_Clone_LChunk_ok_cons (x_ : Chunk) (r_ : List Chunk) (r : (List Chunk)) (h : ((grow 32 ([] : List Chunk) (x_ :: r_)).bind fun z_1 => some z_1) = some r) : Runs L F81.body ⟨tmOf [.d (.sl (List.map Chunk.d (x_ :: r_)))] 0, fun _ => none⟩ (slices_Clone_LChunk_Q (x_ :: r_) r) := by
  refine Runs.seq ?_
  refine Runs.ops ?_
  refine RunAt.chunk 1 [⟨.nils, []⟩] (by kernel_rfl) ?_
  refine RunAt.done (by kernel_rfl) ?_
  refine kS_nrm ?_
  refine Runs.seq ?_
  refine Runs.seq ?_
  refine Runs.ops ?_
  refine RunAt.chunk 2 [⟨.d (.sl (List.map Chunk.d (x_ :: r_))), []⟩, ⟨.d (.bool false), []⟩] (by kernel_rfl) ?_
  refine RunAt.done (by kernel_rfl) ?_
  refine kS_nrm ?_
  refine Runs.cond_f (by kernel_rfl) ?_
  refine Runs.skip ?_
  refine kS_nrm ?_
  refine Runs.seq ?_
  refine Runs.ops ?_
  refine RunAt.chunk 2 [⟨.ref [5] 0 0 (List.map Chunk.d ([] : List Chunk)).length 4, [([5], some (.arr (List.map Chunk.d ([] : List Chunk)) 0 false))]⟩, ⟨.d (.sl (List.map Chunk.d (x_ :: r_))), []⟩] (by kernel_rfl) ?_
  obtain ⟨z_1, hz_1, h⟩ := bind_s h
  refine RunAt.cut (some 7) (.append 4 32 false) [] none [.ref [5] 0 0 (List.map Chunk.d ([] : List Chunk)).length 4, .d (.sl (List.map Chunk.d (x_ :: r_)))] (.ref [5] 1 0 (List.map Chunk.d z_1).length 4) [([5], some (.arr (List.map Chunk.d z_1) 1 false))] (by kernel_rfl) (by kernel_rfl) (by kernel_rfl) (cut_appR (e := Chunk.d) (l := ([] : List Chunk)) (fz := false) (ws := []) (ap_data _) (fun _ => rfl) hz_1 (by kernel_rfl) (by kernel_rfl) rfl) ?_
  refine RunAt.chunk 1 [⟨.ref [5] 1 0 (List.map Chunk.d z_1).length 4, []⟩] (by kernel_rfl) ?_
  refine RunAt.done (by kernel_rfl) ?_
  refine kS_nrm ?_
  refine Runs.ret ?_
  obtain rfl := Option.some.inj h
  exact ⟨Out.ret_ne, (fin_of (rs := [.ref [5] 1 0 (List.map Chunk.d z_1).length 4]) (by kernel_rfl) (by kernel_rfl) (outs_own (id := [5]) (v := 1) (fz := false) (es := List.map Chunk.d z_1) (by kernel_rfl) (by decide) rfl outs_nil) (gives_cons (give_same (by kernel_rfl)) gives_nil))⟩
theorem slices_Clone_LChunk_ok_nil  (r : (List Chunk)) (h : (some ([] : List Chunk)) = some r) : Runs L F81.body ⟨tmOf [.nils] 0, fun _ => none⟩ (slices_Clone_LChunk_Q ([] : List Chunk) r) := by
  refine Runs.seq ?_
  refine Runs.ops ?_
  refine RunAt.chunk 1 [⟨.nils, []⟩] (by kernel_rfl) ?_
  refine RunAt.done (by kernel_rfl) ?_
  refine kS_nrm ?_
  refine Runs.seq ?_
  refine Runs.seq ?_
  refine Runs.ops ?_
  refine RunAt.chunk 2 [⟨.nils, []⟩, ⟨.d (.bool true), []⟩] (by kernel_rfl) ?_
  refine RunAt.done (by kernel_rfl) ?_
  refine kS_nrm ?_
  refine Runs.cond_t (by kernel_rfl) ?_
  refine Runs.seq ?_
  refine Runs.ops ?_
  refine RunAt.chunk 1 [⟨.nils, []⟩] (by kernel_rfl) ?_
  refine RunAt.done (by kernel_rfl) ?_
  refine kS_nrm ?_
  refine Runs.seq ?_
  refine Runs.gcons (own_nil Chunk.d (v := 0) (by kernel_rfl) (by kernel_rfl)) ?_
  refine Runs.gnil ?_
  refine kS_nrm ?_
  refine Runs.ret ?_
  refine kS_ret ?_
  obtain rfl := Option.some.inj h
  exact ⟨Out.ret_ne, (fin_of (rs := [.ref [2] 0 0 (List.map Chunk.d ([] : List Chunk)).length 4]) (by kernel_rfl) (by kernel_rfl) (outs_own (id := [2]) (v := 0) (fz := false) (es := List.map Chunk.d ([] : List Chunk)) (by kernel_rfl) (by decide) rfl outs_nil) (gives_cons (give_same (by kernel_rfl)) gives_nil))⟩
theorem slices_Clone_LChunk_ok_empt  (r : (List Chunk)) (h : ((grow 32 ([] : List Chunk) ([] : List Chunk)).bind fun z_1 => some z_1) = some r) : Runs L F81.body ⟨tmOf [.empt] 0, fun _ => none⟩ (slices_Clone_LChunk_Q ([] : List Chunk) r) := by
  refine Runs.seq ?_
  refine Runs.ops ?_
  refine RunAt.chunk 1 [⟨.nils, []⟩] (by kernel_rfl) ?_
  refine RunAt.done (by kernel_rfl) ?_
  refine kS_nrm ?_
  refine Runs.seq ?_
  refine Runs.seq ?_
  refine Runs.ops ?_
  refine RunAt.chunk 2 [⟨.empt, []⟩, ⟨.d (.bool false), []⟩] (by kernel_rfl) ?_
  refine RunAt.done (by kernel_rfl) ?_
  refine kS_nrm ?_
  refine Runs.cond_f (by kernel_rfl) ?_
  refine Runs.skip ?_
  refine kS_nrm ?_
  refine Runs.seq ?_
  refine Runs.ops ?_
  refine RunAt.chunk 2 [⟨.ref [5] 0 0 (List.map Chunk.d ([] : List Chunk)).length 4, [([5], some (.arr (List.map Chunk.d ([] : List Chunk)) 0 false))]⟩, ⟨.empt, []⟩] (by kernel_rfl) ?_
  obtain ⟨z_1, hz_1, h⟩ := bind_s h
  refine RunAt.cut (some 7) (.append 4 32 false) [] none [.ref [5] 0 0 (List.map Chunk.d ([] : List Chunk)).length 4, .empt] (.ref [5] 1 0 (List.map Chunk.d z_1).length 4) [([5], some (.arr (List.map Chunk.d z_1) 1 false))] (by kernel_rfl) (by kernel_rfl) (by kernel_rfl) (cut_appR (e := Chunk.d) (l := ([] : List Chunk)) (fz := false) (ws := []) (ap_empt) (fun _ => rfl) hz_1 (by kernel_rfl) (by kernel_rfl) rfl) ?_
  refine RunAt.chunk 1 [⟨.ref [5] 1 0 (List.map Chunk.d z_1).length 4, []⟩] (by kernel_rfl) ?_
  refine RunAt.done (by kernel_rfl) ?_
  refine kS_nrm ?_
  refine Runs.ret ?_
  obtain rfl := Option.some.inj h
  exact ⟨Out.ret_ne, (fin_of (rs := [.ref [5] 1 0 (List.map Chunk.d z_1).length 4]) (by kernel_rfl) (by kernel_rfl) (outs_own (id := [5]) (v := 1) (fz := false) (es := List.map Chunk.d z_1) (by kernel_rfl) (by decide) rfl outs_nil) (gives_cons (give_same (by kernel_rfl)) gives_nil))⟩
theorem slices_Clone_LChunk_L (s_ : List Chunk) (r : (List Chunk)) (h : slices_Clone_LChunk s_ = some r) : L 81 [.d (.sl (List.map Chunk.d s_))] = some (.arr false 4 (List.map Chunk.d r), [.d (.sl (List.map Chunk.d s_))]) := by
  unfold slices_Clone_LChunk at h
  cases s_ with
  | cons x_ r_ =>
    obtain ⟨p, ⟨hne, hf⟩, hr⟩ := slices_Clone_LChunk_ok_cons x_ r_ r (by rw [h]; rfl)
    obtain ⟨k, hk⟩ := run_of_cons (F := F81) (x := Chunk.d x_) (xs := List.map Chunk.d r_) (ap := [.d (.sl (List.map Chunk.d (x_ :: r_)))]) (bx0 := fun _ => none) rfl (by kernel_rfl) ⟨p, ⟨hne, hf⟩, hr⟩
    exact lim_run (k := k) rfl hk
  | nil =>
    obtain rfl : r = [] := by unfold grow at h; split at h <;> first | (cases h; rfl) | cases h
    obtain ⟨p, ⟨hne, hf⟩, hr⟩ := slices_Clone_LChunk_ok_nil [] (by rfl)
    obtain ⟨q, ⟨hne', hf'⟩, hr'⟩ := slices_Clone_LChunk_ok_empt [] (by rw [h]; rfl)
    obtain ⟨k, hk⟩ := run_of_empty (F := F81) (n := 4) rfl rfl ⟨p, ⟨hne, hf⟩, hr⟩ ⟨q, ⟨hne', hf'⟩, hr'⟩
    exact lim_run (k := k) rfl hk
def comb_put_h8 (c3 : Comb) (d4 : SegDef) (x5 : Chunk) (b_6_0 : (List UInt8)) (b_6_1 : (List UInt8)) (b_6_2 : Int) (b_6_3 : Int) (b_6_4 : Int) (b_6_5 : Int) (b_6_6 : Int) : St := ⟨tab [(3, .ptr [3] 0 0), (4, .ptr [4] 0 0), (5, .ptr [5] 0 0), (6, .ptr [6] 0 0)], tabB [([3], some (.cells [.d (.str c3.Name), .d (.str c3.Class), .d (.int .i64 c3.Align), .d (.int .i64 c3.Combine), .d (.int .u16 c3.Frame), .d (.int .u8 c3.Offset), .d (.int .i64 c3.Len), .d (.sl (List.map Chunk.d c3.Chunks))] 0)), ([4], some (.cells [.d (.int .i64 d4.Align), .d (.int .i64 d4.Combine), .d (.int .u16 d4.Frame), .d (.int .u8 d4.Offset), .d (.int .i64 d4.Len), .d (.int .i64 d4.Name), .d (.int .i64 d4.Class), .d (.int .i64 d4.Overlay)] 0)), ([5], some (.cells [.d (.int .i64 x5.Mod), .d (.int .i64 x5.Seg), .d (.int .i64 x5.Off), .d (.int .i64 x5.Len)] 0)), ([6], some (.cells [.d (.str b_6_0), .d (.str b_6_1), .d (.int .i64 b_6_2), .d (.int .i64 b_6_3), .d (.int .u16 b_6_4), .d (.int .u8 b_6_5), .d (.int .i64 b_6_6), .nils] 0))]⟩
def comb_put_h22 (c3 : Comb) (d4 : SegDef) (x5 : Chunk) (b_6_0 : (List UInt8)) (b_6_1 : (List UInt8)) (b_6_2 : Int) (b_6_3 : Int) (b_6_4 : Int) (b_6_5 : Int) (b_6_6 : Int) : St := ⟨tab [(3, .ptr [3] 0 0), (4, .ptr [4] 0 0), (5, .ptr [5] 0 0), (6, .ptr [6] 0 0)], tabB [([3], some (.cells [.d (.str c3.Name), .d (.str c3.Class), .d (.int .i64 c3.Align), .d (.int .i64 c3.Combine), .d (.int .u16 c3.Frame), .d (.int .u8 c3.Offset), .d (.int .i64 c3.Len), .d (.sl (List.map Chunk.d c3.Chunks))] 0)), ([4], some (.cells [.d (.int .i64 d4.Align), .d (.int .i64 d4.Combine), .d (.int .u16 d4.Frame), .d (.int .u8 d4.Offset), .d (.int .i64 d4.Len), .d (.int .i64 d4.Name), .d (.int .i64 d4.Class), .d (.int .i64 d4.Overlay)] 0)), ([5], some (.cells [.d (.int .i64 x5.Mod), .d (.int .i64 x5.Seg), .d (.int .i64 x5.Off), .d (.int .i64 x5.Len)] 0)), ([6], some (.cells [.d (.str b_6_0), .d (.str b_6_1), .d (.int .i64 b_6_2), .d (.int .i64 b_6_3), .d (.int .u16 b_6_4), .d (.int .u8 b_6_5), .d (.int .i64 b_6_6), .nils] 0))]⟩
def comb_put_Q (c_ : Comb) (d_ : SegDef) (x_ : Chunk) (r : (Comb × Bool)) (p : Out × St) : Prop := (∀ i, p.1 ≠ .exit i) ∧ finF F76 [.d (Comb.d c_), .d (SegDef.d d_), .d (Chunk.d x_)] p.2 = some (.tup [.d (Comb.d r.1), .d (.bool r.2)], [.d (Comb.d c_), .d (SegDef.d d_), .d (Chunk.d x_)])
theorem comb_put_j22_ok (c_ : Comb) (d_ : SegDef) (x_ : Chunk) (c3 : Comb) (d4 : SegDef) (x5 : Chunk) (b_6_0 : (List UInt8)) (b_6_1 : (List UInt8)) (b_6_2 : Int) (b_6_3 : Int) (b_6_4 : Int) (b_6_5 : Int) (b_6_6 : Int) (r : (Comb × Bool)) (h : comb_put_j22 c3 d4 x5 b_6_0 b_6_1 b_6_2 b_6_3 b_6_4 b_6_5 b_6_6 = some r) : Runs L F76b22 (comb_put_h22 c3 d4 x5 b_6_0 b_6_1 b_6_2 b_6_3 b_6_4 b_6_5 b_6_6) (comb_put_Q c_ d_ x_ r) := by
  unfold comb_put_j22 at h
  refine Runs.seq ?_
  refine Runs.ops ?_
  refine RunAt.chunk 4 [⟨.ptr [4] 0 4, []⟩, ⟨.d (.int .i64 d4.Len), []⟩, ⟨.ptr [5] 0 3, []⟩, ⟨.tup [], [([5], some (.cells [.d (.int .i64 x5.Mod), .d (.int .i64 x5.Seg), .d (.int .i64 x5.Off), .d (.int .i64 d4.Len)] 0))]⟩] (by kernel_rfl) ?_
  refine RunAt.done (by kernel_rfl) ?_
  refine kS_nrm ?_
  refine Runs.seq ?_
  refine Runs.ops ?_
  refine RunAt.chunk 10 [⟨.ptr [3] 0 6, []⟩, ⟨.d (.int .i64 c3.Len), []⟩, ⟨.ptr [5] 0 2, []⟩, ⟨.d (.int .i64 x5.Off), []⟩, ⟨.ptr [4] 0 4, []⟩, ⟨.d (.int .i64 d4.Len), []⟩, ⟨.d (.int .i64 (IntKind.wrap .i64 (x5.Off + d4.Len))), []⟩, ⟨.d (.int .i64 (mxI c3.Len (IntKind.wrap .i64 (x5.Off + d4.Len)))), []⟩, ⟨.ptr [3] 0 6, []⟩, ⟨.tup [], [([3], some (.cells [.d (.str c3.Name), .d (.str c3.Class), .d (.int .i64 c3.Align), .d (.int .i64 c3.Combine), .d (.int .u16 c3.Frame), .d (.int .u8 c3.Offset), .d (.int .i64 (mxI c3.Len (IntKind.wrap .i64 (x5.Off + d4.Len)))), .d (.sl (List.map Chunk.d c3.Chunks))] 0))]⟩] (by kernel_rfl) ?_
  refine RunAt.done (by kernel_rfl) ?_
  refine kS_nrm ?_
  refine Runs.seq ?_
  refine Runs.ops ?_
  refine RunAt.chunk 2 [⟨.ptr [3] 0 7, []⟩, ⟨.d (.sl (List.map Chunk.d c3.Chunks)), []⟩] (by kernel_rfl) ?_
  obtain ⟨r_5, hr_5, h⟩ := bind_s h
  have hc_5 := slices_Clone_LChunk_L c3.Chunks r_5 hr_5
  refine RunAt.cut (some 49) (.callf 81) [[51]] (some []) [.d (.sl (List.map Chunk.d c3.Chunks))] (.ref [49] 0 0 (List.map Chunk.d r_5).length 4) [([49], some (.arr (List.map Chunk.d r_5) 0 false))] (by kernel_rfl) (by kernel_rfl) (by kernel_rfl) (cut_call (call_of (ws := []) (us := []) (by kernel_rfl) (gives_cons (ws := []) (give_same (by kernel_rfl)) gives_nil) hc_5 (by kernel_rfl) (by kernel_rfl))) ?_
  refine RunAt.chunk 2 [⟨.d (.agg [.int .i64 x5.Mod, .int .i64 x5.Seg, .int .i64 x5.Off, .int .i64 d4.Len]), []⟩, ⟨.ref [51] 0 0 (List.map Chunk.d ([({ Mod := x5.Mod, Seg := x5.Seg, Off := x5.Off, Len := d4.Len } : Chunk)] : List Chunk)).length 4, [([51], some (.arr (List.map Chunk.d ([({ Mod := x5.Mod, Seg := x5.Seg, Off := x5.Off, Len := d4.Len } : Chunk)] : List Chunk)) 0 false))]⟩] (by kernel_rfl) ?_
  obtain ⟨z_1, hz_1, h⟩ := bind_s h
  refine RunAt.cut (some 52) (.append 4 32 false) [] none [.ref [49] 0 0 (List.map Chunk.d r_5).length 4, .ref [51] 0 0 (List.map Chunk.d ([({ Mod := x5.Mod, Seg := x5.Seg, Off := x5.Off, Len := d4.Len } : Chunk)] : List Chunk)).length 4] (.ref [49] 1 0 (List.map Chunk.d z_1).length 4) [([51], some (.arr (List.map Chunk.d ([({ Mod := x5.Mod, Seg := x5.Seg, Off := x5.Off, Len := d4.Len } : Chunk)] : List Chunk)) 0 true)), ([49], some (.arr (List.map Chunk.d z_1) 1 false))] (by kernel_rfl) (by kernel_rfl) (by kernel_rfl) (cut_appR (e := Chunk.d) (l := r_5) (fz := false) (ws := [([51], some (.arr (List.map Chunk.d ([({ Mod := x5.Mod, Seg := x5.Seg, Off := x5.Off, Len := d4.Len } : Chunk)] : List Chunk)) 0 true))]) (ap_ref (e := Chunk.d) (l := ([({ Mod := x5.Mod, Seg := x5.Seg, Off := x5.Off, Len := d4.Len } : Chunk)] : List Chunk)) (fz := false) (by kernel_rfl) (by kernel_rfl) rfl) (fun _ => rfl) hz_1 (by kernel_rfl) (by kernel_rfl) rfl) ?_
  refine RunAt.chunk 2 [⟨.ptr [3] 0 7, []⟩, ⟨.tup [], [([3], some (.cells [.d (.str c3.Name), .d (.str c3.Class), .d (.int .i64 c3.Align), .d (.int .i64 c3.Combine), .d (.int .u16 c3.Frame), .d (.int .u8 c3.Offset), .d (.int .i64 (mxI c3.Len (IntKind.wrap .i64 (x5.Off + d4.Len)))), .ref [49] 1 0 (List.map Chunk.d z_1).length 4] 0))]⟩] (by kernel_rfl) ?_
  refine RunAt.done (by kernel_rfl) ?_
  refine kS_nrm ?_
  refine Runs.seq ?_
  refine Runs.ops ?_
  refine RunAt.chunk 3 [⟨.mix [.d (.str c3.Name), .d (.str c3.Class), .d (.int .i64 c3.Align), .d (.int .i64 c3.Combine), .d (.int .u16 c3.Frame), .d (.int .u8 c3.Offset), .d (.int .i64 (mxI c3.Len (IntKind.wrap .i64 (x5.Off + d4.Len)))), .ref [49] 1 0 (List.map Chunk.d z_1).length 4], []⟩, ⟨.tup [], [([6], some (.cells [.d (.str c3.Name), .d (.str c3.Class), .d (.int .i64 c3.Align), .d (.int .i64 c3.Combine), .d (.int .u16 c3.Frame), .d (.int .u8 c3.Offset), .d (.int .i64 (mxI c3.Len (IntKind.wrap .i64 (x5.Off + d4.Len)))), .ref [49] 1 0 (List.map Chunk.d z_1).length 4] 0))]⟩, ⟨.d (.bool true), []⟩] (by kernel_rfl) ?_
  refine RunAt.done (by kernel_rfl) ?_
  refine kS_nrm ?_
  refine Runs.seq ?_
  refine Runs.gcons (frzB_ref (e := Chunk.d) (l := z_1) (id := [6]) (id' := [49]) (v := 1) (n := 4) (fz := false) (ver := 0) (cs := [.d (.str c3.Name), .d (.str c3.Class), .d (.int .i64 c3.Align), .d (.int .i64 c3.Combine), .d (.int .u16 c3.Frame), .d (.int .u8 c3.Offset), .d (.int .i64 (mxI c3.Len (IntKind.wrap .i64 (x5.Off + d4.Len)))), .ref [49] 1 0 (List.map Chunk.d z_1).length 4]) (cs' := [.d (.str c3.Name), .d (.str c3.Class), .d (.int .i64 c3.Align), .d (.int .i64 c3.Combine), .d (.int .u16 c3.Frame), .d (.int .u8 c3.Offset), .d (.int .i64 (mxI c3.Len (IntKind.wrap .i64 (x5.Off + d4.Len)))), .d (.sl (List.map Chunk.d z_1))]) (by kernel_rfl) (by kernel_rfl) (by kernel_rfl) (by decide) (by kernel_rfl) rfl) ?_
  refine Runs.gnil ?_
  refine kS_nrm ?_
  refine Runs.ret ?_
  obtain rfl := Option.some.inj h
  exact ⟨Out.ret_ne, (by kernel_rfl)⟩
theorem comb_put_j8_ok (c_ : Comb) (d_ : SegDef) (x_ : Chunk) (c3 : Comb) (d4 : SegDef) (x5 : Chunk) (b_6_0 : (List UInt8)) (b_6_1 : (List UInt8)) (b_6_2 : Int) (b_6_3 : Int) (b_6_4 : Int) (b_6_5 : Int) (b_6_6 : Int) (r : (Comb × Bool)) (h : comb_put_j8 c3 d4 x5 b_6_0 b_6_1 b_6_2 b_6_3 b_6_4 b_6_5 b_6_6 = some r) : Runs L F76b8 (comb_put_h8 c3 d4 x5 b_6_0 b_6_1 b_6_2 b_6_3 b_6_4 b_6_5 b_6_6) (comb_put_Q c_ d_ x_ r) := by
  unfold comb_put_j8 at h
  refine Runs.seq ?_
  refine Runs.seq ?_
  refine Runs.ops ?_
  refine RunAt.chunk 6 [⟨.ptr [5] 0 2, []⟩, ⟨.d (.int .i64 x5.Off), []⟩, ⟨.ptr [4] 0 4, []⟩, ⟨.d (.int .i64 d4.Len), []⟩, ⟨.d (.int .i64 (IntKind.wrap .i64 (65536 - d4.Len))), []⟩, ⟨.d (.bool (decide (x5.Off > (IntKind.wrap .i64 (65536 - d4.Len))))), []⟩] (by kernel_rfl) ?_
  refine RunAt.done (by kernel_rfl) ?_
  refine kS_nrm ?_
  cases hb_2 : ((decide (x5.Off > (IntKind.wrap .i64 (65536 - d4.Len)))) : Bool) with
  | true =>
    replace h := ite_t hb_2 h
    refine Runs.cond_t (by kernel_rfl) ?_
    refine Runs.seq ?_
    refine Runs.ops ?_
    refine RunAt.chunk 3 [⟨.d (Comb.d c3), []⟩, ⟨.tup [], [([6], some (.cells [.d (.str c3.Name), .d (.str c3.Class), .d (.int .i64 c3.Align), .d (.int .i64 c3.Combine), .d (.int .u16 c3.Frame), .d (.int .u8 c3.Offset), .d (.int .i64 c3.Len), .d (.sl (List.map Chunk.d c3.Chunks))] 0))]⟩, ⟨.d (.bool false), []⟩] (by kernel_rfl) ?_
    refine RunAt.done (by kernel_rfl) ?_
    refine kS_nrm ?_
    refine Runs.ret ?_
    refine kS_ret ?_
    obtain rfl := Option.some.inj h
    exact ⟨Out.ret_ne, (by kernel_rfl)⟩
  | false =>
    replace h := ite_f hb_2 h
    refine Runs.cond_f (by kernel_rfl) ?_
    refine Runs.skip ?_
    refine kS_nrm ?_
    refine Runs.seq ?_
    refine Runs.seq ?_
    refine Runs.ops ?_
    refine RunAt.chunk 2 [⟨.ptr [4] 0 0, []⟩, ⟨.d (.int .i64 d4.Align), []⟩] (by kernel_rfl) ?_
    obtain ⟨r_3, hr_3, h⟩ := bind_s h
    have hc_3 := segs_Step_L d4.Align r_3 hr_3
    refine RunAt.cut (some 27) (.callf 70) [] (some []) [.d (.int .i64 d4.Align)] (.d (.int .i64 r_3)) [] (by kernel_rfl) (by kernel_rfl) (by kernel_rfl) (cut_call (call_of (ws := []) (us := []) (by kernel_rfl) (by kernel_rfl) hc_3 (by kernel_rfl) (by kernel_rfl))) ?_
    refine RunAt.chunk 2 [⟨.ptr [3] 0 2, []⟩, ⟨.d (.int .i64 c3.Align), []⟩] (by kernel_rfl) ?_
    obtain ⟨r_4, hr_4, h⟩ := bind_s h
    have hc_4 := segs_Step_L c3.Align r_4 hr_4
    refine RunAt.cut (some 30) (.callf 70) [] none [.d (.int .i64 c3.Align)] (.d (.int .i64 r_4)) [] (by kernel_rfl) (by kernel_rfl) (by kernel_rfl) (cut_call (call_of (ws := []) (us := []) (by kernel_rfl) (by kernel_rfl) hc_4 (by kernel_rfl) (by kernel_rfl))) ?_
    refine RunAt.chunk 1 [⟨.d (.bool (decide (r_3 > r_4))), []⟩] (by kernel_rfl) ?_
    refine RunAt.done (by kernel_rfl) ?_
    refine kS_nrm ?_
    cases hb_3 : ((decide (r_3 > r_4)) : Bool) with
    | true =>
      replace h := ite_t hb_3 h
      refine Runs.cond_t (by kernel_rfl) ?_
      refine Runs.ops ?_
      refine RunAt.chunk 4 [⟨.ptr [4] 0 0, []⟩, ⟨.d (.int .i64 d4.Align), []⟩, ⟨.ptr [3] 0 2, []⟩, ⟨.tup [], [([3], some (.cells [.d (.str c3.Name), .d (.str c3.Class), .d (.int .i64 d4.Align), .d (.int .i64 c3.Combine), .d (.int .u16 c3.Frame), .d (.int .u8 c3.Offset), .d (.int .i64 c3.Len), .d (.sl (List.map Chunk.d c3.Chunks))] 0))]⟩] (by kernel_rfl) ?_
      refine RunAt.done (by kernel_rfl) ?_
      refine kS_nrm ?_
      refine Runs.canon (comb_put_h22 ({ Name := c3.Name, Class := c3.Class, Align := d4.Align, Combine := c3.Combine, Frame := c3.Frame, Offset := c3.Offset, Len := c3.Len, Chunks := c3.Chunks } : Comb) d4 x5 b_6_0 b_6_1 b_6_2 b_6_3 b_6_4 b_6_5 b_6_6) (Canon.nil (by kernel_rfl)) ?_
      exact comb_put_j22_ok c_ d_ x_ ({ Name := c3.Name, Class := c3.Class, Align := d4.Align, Combine := c3.Combine, Frame := c3.Frame, Offset := c3.Offset, Len := c3.Len, Chunks := c3.Chunks } : Comb) d4 x5 b_6_0 b_6_1 b_6_2 b_6_3 b_6_4 b_6_5 b_6_6 r h
    | false =>
      replace h := ite_f hb_3 h
      refine Runs.cond_f (by kernel_rfl) ?_
      refine Runs.skip ?_
      refine kS_nrm ?_
      refine Runs.canon (comb_put_h22 c3 d4 x5 b_6_0 b_6_1 b_6_2 b_6_3 b_6_4 b_6_5 b_6_6) (Canon.nil (by kernel_rfl)) ?_
      exact comb_put_j22_ok c_ d_ x_ c3 d4 x5 b_6_0 b_6_1 b_6_2 b_6_3 b_6_4 b_6_5 b_6_6 r h
theorem comb_put_ok (c_ : Comb) (d_ : SegDef) (x_ : Chunk) (r : (Comb × Bool)) (h : comb_put c_ d_ x_ = some r) : Runs L F76.body ⟨tmOf [.d (Comb.d c_), .d (SegDef.d d_), .d (Chunk.d x_)] 0, updW (fun _ => none) []⟩ (comb_put_Q c_ d_ x_ r) := by
  unfold comb_put at h
  refine Runs.seq ?_
  refine Runs.ops ?_
  refine RunAt.chunk 5 [⟨.ptr [3] 0 0, [([3], some (.cells [.d (.str c_.Name), .d (.str c_.Class), .d (.int .i64 c_.Align), .d (.int .i64 c_.Combine), .d (.int .u16 c_.Frame), .d (.int .u8 c_.Offset), .d (.int .i64 c_.Len), .d (.sl (List.map Chunk.d c_.Chunks))] 0))]⟩, ⟨.ptr [4] 0 0, [([4], some (.cells [.d (.int .i64 d_.Align), .d (.int .i64 d_.Combine), .d (.int .u16 d_.Frame), .d (.int .u8 d_.Offset), .d (.int .i64 d_.Len), .d (.int .i64 d_.Name), .d (.int .i64 d_.Class), .d (.int .i64 d_.Overlay)] 0))]⟩, ⟨.ptr [5] 0 0, [([5], some (.cells [.d (.int .i64 x_.Mod), .d (.int .i64 x_.Seg), .d (.int .i64 x_.Off), .d (.int .i64 x_.Len)] 0))]⟩, ⟨.ptr [6] 0 0, [([6], some (.cells [.d (.str []), .d (.str []), .d (.int .i64 0), .d (.int .i64 0), .d (.int .u16 0), .d (.int .u8 0), .d (.int .i64 0), .nils] 0))]⟩, ⟨.d (.bool false), []⟩] (by kernel_rfl) ?_
  refine RunAt.done (by kernel_rfl) ?_
  refine kS_nrm ?_
  refine Runs.seq ?_
  refine Runs.seq ?_
  refine Runs.ops ?_
  refine RunAt.chunk 3 [⟨.ptr [4] 0 1, []⟩, ⟨.d (.int .i64 d_.Combine), []⟩, ⟨.d (.bool (d_.Combine != 6)), []⟩] (by kernel_rfl) ?_
  refine RunAt.done (by kernel_rfl) ?_
  refine kS_nrm ?_
  cases hb_1 : ((d_.Combine != 6) : Bool) with
  | true =>
    replace h := ite_t hb_1 h
    refine Runs.cond_t (by kernel_rfl) ?_
    refine Runs.ops ?_
    refine RunAt.chunk 4 [⟨.ptr [3] 0 6, []⟩, ⟨.d (.int .i64 c_.Len), []⟩, ⟨.ptr [4] 0 0, []⟩, ⟨.d (.int .i64 d_.Align), []⟩] (by kernel_rfl) ?_
    obtain ⟨r_1, hr_1, h⟩ := bind_s h
    have hc_1 := segs_Step_L d_.Align r_1 hr_1
    refine RunAt.cut (some 15) (.callf 70) [] (some []) [.d (.int .i64 d_.Align)] (.d (.int .i64 r_1)) [] (by kernel_rfl) (by kernel_rfl) (by kernel_rfl) (cut_call (call_of (ws := []) (us := []) (by kernel_rfl) (by kernel_rfl) hc_1 (by kernel_rfl) (by kernel_rfl))) ?_
    obtain ⟨r_2, hr_2, h⟩ := bind_s h
    have hc_2 := bits_Up_L c_.Len r_1 r_2 hr_2
    refine RunAt.cut (some 16) (.callf 69) [] none [.d (.int .i64 c_.Len), .d (.int .i64 r_1)] (.d (.int .i64 r_2)) [] (by kernel_rfl) (by kernel_rfl) (by kernel_rfl) (cut_call (call_of (ws := []) (us := []) (by kernel_rfl) (by kernel_rfl) hc_2 (by kernel_rfl) (by kernel_rfl))) ?_
    refine RunAt.chunk 2 [⟨.ptr [5] 0 2, []⟩, ⟨.tup [], [([5], some (.cells [.d (.int .i64 x_.Mod), .d (.int .i64 x_.Seg), .d (.int .i64 r_2), .d (.int .i64 x_.Len)] 0))]⟩] (by kernel_rfl) ?_
    refine RunAt.done (by kernel_rfl) ?_
    refine kS_nrm ?_
    refine Runs.canon (comb_put_h8 c_ d_ ({ Mod := x_.Mod, Seg := x_.Seg, Off := r_2, Len := x_.Len } : Chunk) [] [] 0 0 0 0 0) (Canon.nil (by kernel_rfl)) ?_
    exact comb_put_j8_ok c_ d_ x_ c_ d_ ({ Mod := x_.Mod, Seg := x_.Seg, Off := r_2, Len := x_.Len } : Chunk) [] [] 0 0 0 0 0 r h
  | false =>
    replace h := ite_f hb_1 h
    refine Runs.cond_f (by kernel_rfl) ?_
    refine Runs.skip ?_
    refine kS_nrm ?_
    refine Runs.canon (comb_put_h8 c_ d_ x_ [] [] 0 0 0 0 0) (Canon.nil (by kernel_rfl)) ?_
    exact comb_put_j8_ok c_ d_ x_ c_ d_ x_ [] [] 0 0 0 0 0 r h
theorem comb_put_L (c_ : Comb) (d_ : SegDef) (x_ : Chunk) (r : (Comb × Bool)) (h : comb_put c_ d_ x_ = some r) : L 76 [.d (Comb.d c_), .d (SegDef.d d_), .d (Chunk.d x_)] = some (.tup [.d (Comb.d r.1), .d (.bool r.2)], [.d (Comb.d c_), .d (SegDef.d d_), .d (Chunk.d x_)]) := by
  obtain ⟨p, ⟨hne, hf⟩, hr⟩ := comb_put_ok c_ d_ x_ r h
  obtain ⟨k, hk⟩ := run_of (F := F76) (args := [.d (Comb.d c_), .d (SegDef.d d_), .d (Chunk.d x_)]) (ap := [.d (Comb.d c_), .d (SegDef.d d_), .d (Chunk.d x_)]) (bx0 := updW (fun _ => none) []) rfl rfl (by kernel_rfl) ⟨p, ⟨hne, hf⟩, hr⟩
  exact lim_run (k := k) rfl hk
def comb_Add_h16 (d9 : SegDef) (x14 : Chunk) (b_24 : (List Comb)) (i16 : Int) (v_24 : Nat) : St := ⟨tab [(9, .ptr [9] 0 0), (14, .ptr [14] 0 0), (15, .ref [24] v_24 0 (List.map Comb.d b_24).length 8), (16, .d (.int .i64 i16))], tabB [([9], some (.cells [.d (.int .i64 d9.Align), .d (.int .i64 d9.Combine), .d (.int .u16 d9.Frame), .d (.int .u8 d9.Offset), .d (.int .i64 d9.Len), .d (.int .i64 d9.Name), .d (.int .i64 d9.Class), .d (.int .i64 d9.Overlay)] 0)), ([14], some (.cells [.d (.int .i64 x14.Mod), .d (.int .i64 x14.Seg), .d (.int .i64 x14.Off), .d (.int .i64 x14.Len)] 0)), ([24], some (.arr (List.map Comb.d b_24) v_24 false))]⟩
def comb_Add_Q (l_ : (List Comb)) (name_ : (List UInt8)) (class_ : (List UInt8)) (d_ : SegDef) (mod_ : Int) (seg_ : Int) (r : ((List Comb) × Int)) (p : Out × St) : Prop := (∀ i, p.1 ≠ .exit i) ∧ finF F51 [.d (.sl (List.map Comb.d l_)), .d (.str name_), .d (.str class_), .d (SegDef.d d_), .d (.int .i64 mod_), .d (.int .i64 seg_)] p.2 = some (.tup [.d (.sl (List.map Comb.d r.1)), .d (.int .i64 r.2)], [.d (.sl (List.map Comb.d l_)), .d (.str name_), .d (.str class_), .d (SegDef.d d_), .d (.int .i64 mod_), .d (.int .i64 seg_)])
theorem comb_Add_j16_ok (l_ : (List Comb)) (name_ : (List UInt8)) (class_ : (List UInt8)) (d_ : SegDef) (mod_ : Int) (seg_ : Int) (d9 : SegDef) (x14 : Chunk) (b_24 : (List Comb)) (i16 : Int) (v_24 : Nat) (r : ((List Comb) × Int)) (h : comb_Add_j16 d9 x14 b_24 i16 = some r) : Runs L F51b16 (comb_Add_h16 d9 x14 b_24 i16 v_24) (comb_Add_Q l_ name_ class_ d_ mod_ seg_ r) := by
  unfold comb_Add_j16 at h
  refine Runs.seq ?_
  refine Runs.ops ?_
  refine RunAt.chunk 2 [⟨.ref [24] v_24 0 (List.map Comb.d b_24).length 8, []⟩, ⟨.d (.int .i64 i16), []⟩] (by kernel_rfl) ?_
  obtain ⟨z_2, hz_2, h⟩ := bind_s h
  refine RunAt.cut (some 50) (.iaddrS 8) [] none [.ref [24] v_24 0 (List.map Comb.d b_24).length 8, .d (.int .i64 i16)] (.eref [24] v_24 (0 + (i16).toNat) 0) [] (by kernel_rfl) (by kernel_rfl) (by kernel_rfl) (cut_atR (e := Comb.d) (l := b_24) hz_2 rfl) ?_
  refine RunAt.cut (some 51) (.load (some 8)) [[18]] none [.eref [24] v_24 (0 + (i16).toNat) 0] (.d (Comb.d z_2)) [] (by kernel_rfl) (by kernel_rfl) (by kernel_rfl) (cut_loadR (e := Comb.d) (l := b_24) (fz := false) (y := z_2) (by kernel_rfl) hz_2 (by kernel_rfl) (by kernel_rfl)) ?_
  refine RunAt.chunk 2 [⟨.d (SegDef.d d9), []⟩, ⟨.d (Chunk.d x14), []⟩] (by kernel_rfl) ?_
  obtain ⟨r_3, hr_3, h⟩ := bind_s h
  have hc_3 := comb_put_L z_2 d9 x14 r_3 hr_3
  refine RunAt.cut (some 54) (.callf 76) [[18]] (some []) [.d (Comb.d z_2), .d (SegDef.d d9), .d (Chunk.d x14)] (.tup [.d (Comb.d r_3.1), .d (.bool r_3.2)]) [] (by kernel_rfl) (by kernel_rfl) (by kernel_rfl) (cut_call (call_of (ws := []) (us := []) (by kernel_rfl) (by kernel_rfl) hc_3 (by kernel_rfl) (by kernel_rfl))) ?_
  refine RunAt.chunk 6 [⟨.tup [.d (Comb.d r_3.1), .d (.bool r_3.2)], []⟩, ⟨.d (Comb.d r_3.1), []⟩, ⟨.d (.bool r_3.2), []⟩, ⟨.ptr [18] 0 0, [([18], some (.cells [.d (.str []), .d (.str []), .d (.int .i64 0), .d (.int .i64 0), .d (.int .u16 0), .d (.int .u8 0), .d (.int .i64 0), .nils] 0))]⟩, ⟨.tup [], [([18], some (.cells [.d (.str r_3.1.Name), .d (.str r_3.1.Class), .d (.int .i64 r_3.1.Align), .d (.int .i64 r_3.1.Combine), .d (.int .u16 r_3.1.Frame), .d (.int .u8 r_3.1.Offset), .d (.int .i64 r_3.1.Len), .d (.sl (List.map Chunk.d r_3.1.Chunks))] 0))]⟩, ⟨.d (.bool r_3.2), []⟩] (by kernel_rfl) ?_
  refine RunAt.done (by kernel_rfl) ?_
  refine kS_nrm ?_
  refine Runs.seq ?_
  refine Runs.seq ?_
  refine Runs.ops ?_
  refine RunAt.chunk 2 [⟨.d (.bool r_3.2), []⟩, ⟨.d (.bool (!r_3.2)), []⟩] (by kernel_rfl) ?_
  refine RunAt.done (by kernel_rfl) ?_
  refine kS_nrm ?_
  cases hb_2 : ((!r_3.2) : Bool) with
  | true =>
    replace h := ite_t hb_2 h
    refine Runs.cond_t (by kernel_rfl) ?_
    refine Runs.seq ?_
    refine Runs.ops ?_
    refine RunAt.chunk 2 [⟨.nils, []⟩, ⟨.d (.int .i64 8), []⟩] (by kernel_rfl) ?_
    refine RunAt.done (by kernel_rfl) ?_
    refine kS_nrm ?_
    refine Runs.seq ?_
    refine Runs.gcons (frz_nil Comb.d (by kernel_rfl)) ?_
    refine Runs.gnil ?_
    refine kS_nrm ?_
    refine Runs.ret ?_
    refine kS_ret ?_
    obtain rfl := Option.some.inj h
    exact ⟨Out.ret_ne, (by kernel_rfl)⟩
  | false =>
    replace h := ite_f hb_2 h
    refine Runs.cond_f (by kernel_rfl) ?_
    refine Runs.skip ?_
    refine kS_nrm ?_
    refine Runs.seq ?_
    refine Runs.ops ?_
    refine RunAt.chunk 3 [⟨.ref [24] v_24 0 (List.map Comb.d b_24).length 8, []⟩, ⟨.d (.int .i64 i16), []⟩, ⟨.d (Comb.d r_3.1), []⟩] (by kernel_rfl) ?_
    obtain ⟨z_3, hz_3, h⟩ := bind_s h
    refine RunAt.cut (some 62) (.iaddrS 8) [] none [.ref [24] v_24 0 (List.map Comb.d b_24).length 8, .d (.int .i64 i16)] (.eref [24] v_24 (0 + (i16).toNat) 0) [] (by kernel_rfl) (by kernel_rfl) (by kernel_rfl) (cut_atR (e := Comb.d) (l := b_24) hz_3 rfl) ?_
    refine RunAt.cut none (.store 8) [] none [.eref [24] v_24 (0 + (i16).toNat) 0, .d (Comb.d r_3.1)] (.tup []) [([24], some (.arr (List.map Comb.d (List.set b_24 (i16).toNat r_3.1)) v_24 false))] (by kernel_rfl) (by kernel_rfl) (by kernel_rfl) (cut_setR (e := Comb.d) (l := b_24) (y := z_3) (y' := r_3.1) (ds := [.str r_3.1.Name, .str r_3.1.Class, .int .i64 r_3.1.Align, .int .i64 r_3.1.Combine, .int .u16 r_3.1.Frame, .int .u8 r_3.1.Offset, .int .i64 r_3.1.Len, .sl (List.map Chunk.d r_3.1.Chunks)]) (by kernel_rfl) hz_3 (by kernel_rfl) (by kernel_rfl) (by kernel_rfl) (by kernel_rfl)) ?_
    refine RunAt.done (by kernel_rfl) ?_
    refine kS_nrm ?_
    refine Runs.seq ?_
    refine Runs.ops ?_
    refine RunAt.chunk 3 [⟨.ref [24] v_24 0 (List.map Comb.d b_24).length 8, []⟩, ⟨.ref [24] v_24 0 (List.map Comb.d b_24).length 8, []⟩, ⟨.d (.int .i64 0), []⟩] (by kernel_rfl) ?_
    refine RunAt.done (by kernel_rfl) ?_
    refine kS_nrm ?_
    refine Runs.seq ?_
    refine Runs.gcons (frz_ref (e := Comb.d) (l := (List.set b_24 (i16).toNat r_3.1)) (id := [24]) (v := v_24) (n := 8) (fz := false) (by kernel_rfl) (by kernel_rfl) (by simp only [List.length_map, List.length_set] : (List.map Comb.d b_24).length = (List.map Comb.d (List.set b_24 (i16).toNat r_3.1)).length)) ?_
    refine Runs.gnil ?_
    refine kS_nrm ?_
    refine Runs.ret ?_
    obtain rfl := Option.some.inj h
    exact ⟨Out.ret_ne, (by kernel_rfl)⟩
theorem comb_Add_ok (l_ : (List Comb)) (name_ : (List UInt8)) (class_ : (List UInt8)) (d_ : SegDef) (mod_ : Int) (seg_ : Int) (r : ((List Comb) × Int)) (h : comb_Add l_ name_ class_ d_ mod_ seg_ = some r) : Runs L F51.body ⟨tmOf [.d (.sl (List.map Comb.d l_)), .d (.str name_), .d (.str class_), .d (SegDef.d d_), .d (.int .i64 mod_), .d (.int .i64 seg_)] 0, updW (fun _ => none) []⟩ (comb_Add_Q l_ name_ class_ d_ mod_ seg_ r) := by
  unfold comb_Add at h
  refine Runs.seq ?_
  refine Runs.ops ?_
  refine RunAt.chunk 5 [⟨.ptr [7] 0 0, [([7], some (.cells [.d (.str name_)] 0))]⟩, ⟨.ptr [8] 0 0, [([8], some (.cells [.d (.str class_)] 0))]⟩, ⟨.ptr [9] 0 0, [([9], some (.cells [.d (.int .i64 d_.Align), .d (.int .i64 d_.Combine), .d (.int .u16 d_.Frame), .d (.int .u8 d_.Offset), .d (.int .i64 d_.Len), .d (.int .i64 d_.Name), .d (.int .i64 d_.Class), .d (.int .i64 d_.Overlay)] 0))]⟩, ⟨.nils, []⟩, ⟨.d (.int .i64 0), []⟩] (by kernel_rfl) ?_
  refine RunAt.done (by kernel_rfl) ?_
  refine kS_nrm ?_
  refine Runs.seq ?_
  refine Runs.ops ?_
  refine RunAt.chunk 5 [⟨.d (.int .i64 mod_), []⟩, ⟨.d (.int .i64 seg_), []⟩, ⟨.d (.agg [.int .i64 mod_, .int .i64 seg_, .int .i64 0, .int .i64 0]), []⟩, ⟨.ptr [14] 0 0, [([14], some (.cells [.d (.int .i64 0), .d (.int .i64 0), .d (.int .i64 0), .d (.int .i64 0)] 0))]⟩, ⟨.tup [], [([14], some (.cells [.d (.int .i64 mod_), .d (.int .i64 seg_), .d (.int .i64 0), .d (.int .i64 0)] 0))]⟩] (by kernel_rfl) ?_
  refine RunAt.done (by kernel_rfl) ?_
  refine kS_nrm ?_
  refine Runs.seq ?_
  refine Runs.ops ?_
  refine RunAt.chunk 1 [⟨.d (.sl (List.map Comb.d l_)), []⟩] (by kernel_rfl) ?_
  obtain ⟨r_1, hr_1, h⟩ := bind_s h
  have hc_1 := slices_Clone_LComb_L l_ r_1 hr_1
  refine RunAt.cut (some 24) (.callf 73) [] none [.d (.sl (List.map Comb.d l_))] (.ref [24] 0 0 (List.map Comb.d r_1).length 8) [([24], some (.arr (List.map Comb.d r_1) 0 false))] (by kernel_rfl) (by kernel_rfl) (by kernel_rfl) (cut_call (call_of (ws := []) (us := []) (by kernel_rfl) (gives_cons (ws := []) (give_same (by kernel_rfl)) gives_nil) hc_1 (by kernel_rfl) (by kernel_rfl))) ?_
  refine RunAt.chunk 1 [⟨.ref [24] 0 0 (List.map Comb.d r_1).length 8, []⟩] (by kernel_rfl) ?_
  refine RunAt.done (by kernel_rfl) ?_
  refine kS_nrm ?_
  refine Runs.seq ?_
  refine Runs.ops ?_
  refine RunAt.chunk 2 [⟨.d (.sl (List.map Comb.d l_)), []⟩, ⟨.fn 74 [.ptr [7] 0 0, .ptr [8] 0 0, .ptr [9] 0 0], []⟩] (by kernel_rfl) ?_
  obtain ⟨r_2, hr_2, h⟩ := bind_s h
  have hc_2 := slices_IndexFunc_LComb_comb_Add_1_L l_ name_ class_ d_ r_2 hr_2
  refine RunAt.cut (some 27) (.callf 71) [] none [.d (.sl (List.map Comb.d l_)), .fn 74 [.ptr [7] 0 0, .ptr [8] 0 0, .ptr [9] 0 0]] (.d (.int .i64 r_2.1)) [([7], some (.cells [.d (.str r_2.2.1)] 0)), ([8], some (.cells [.d (.str r_2.2.2.1)] 0)), ([9], some (.cells [.d (.int .i64 r_2.2.2.2.Align), .d (.int .i64 r_2.2.2.2.Combine), .d (.int .u16 r_2.2.2.2.Frame), .d (.int .u8 r_2.2.2.2.Offset), .d (.int .i64 r_2.2.2.2.Len), .d (.int .i64 r_2.2.2.2.Name), .d (.int .i64 r_2.2.2.2.Class), .d (.int .i64 r_2.2.2.2.Overlay)] 0))] (by kernel_rfl) (by kernel_rfl) (by kernel_rfl) (cut_call (call_of (ws := []) (us := [([7], some (.cells [.d (.str r_2.2.1)] 0)), ([8], some (.cells [.d (.str r_2.2.2.1)] 0)), ([9], some (.cells [.d (.int .i64 r_2.2.2.2.Align), .d (.int .i64 r_2.2.2.2.Combine), .d (.int .u16 r_2.2.2.2.Frame), .d (.int .u8 r_2.2.2.2.Offset), .d (.int .i64 r_2.2.2.2.Len), .d (.int .i64 r_2.2.2.2.Name), .d (.int .i64 r_2.2.2.2.Class), .d (.int .i64 r_2.2.2.2.Overlay)] 0))]) (by kernel_rfl) (by kernel_rfl) hc_2 (by kernel_rfl) (by kernel_rfl))) ?_
  refine RunAt.chunk 1 [⟨.d (.int .i64 r_2.1), []⟩] (by kernel_rfl) ?_
  refine RunAt.done (by kernel_rfl) ?_
  refine kS_nrm ?_
  refine Runs.seq ?_
  refine Runs.seq ?_
  refine Runs.ops ?_
  refine RunAt.chunk 2 [⟨.d (.int .i64 r_2.1), []⟩, ⟨.d (.bool (decide (r_2.1 < 0))), []⟩] (by kernel_rfl) ?_
  refine RunAt.done (by kernel_rfl) ?_
  refine kS_nrm ?_
  cases hb_1 : ((decide (r_2.1 < 0)) : Bool) with
  | true =>
    replace h := ite_t hb_1 h
    refine Runs.cond_t (by kernel_rfl) ?_
    refine Runs.seq ?_
    refine Runs.ops ?_
    refine RunAt.chunk 13 [⟨.d (.str r_2.2.1), []⟩, ⟨.d (.str r_2.2.2.1), []⟩, ⟨.ptr [9] 0 0, []⟩, ⟨.d (.int .i64 r_2.2.2.2.Align), []⟩, ⟨.ptr [9] 0 1, []⟩, ⟨.d (.int .i64 r_2.2.2.2.Combine), []⟩, ⟨.ptr [9] 0 2, []⟩, ⟨.d (.int .u16 r_2.2.2.2.Frame), []⟩, ⟨.ptr [9] 0 3, []⟩, ⟨.d (.int .u8 r_2.2.2.2.Offset), []⟩, ⟨.mix [.d (.str r_2.2.1), .d (.str r_2.2.2.1), .d (.int .i64 r_2.2.2.2.Align), .d (.int .i64 r_2.2.2.2.Combine), .d (.int .u16 r_2.2.2.2.Frame), .d (.int .u8 r_2.2.2.2.Offset), .d (.int .i64 0), .nils], []⟩, ⟨.ptr [17] 0 0, [([17], some (.cells [.d (.str []), .d (.str []), .d (.int .i64 0), .d (.int .i64 0), .d (.int .u16 0), .d (.int .u8 0), .d (.int .i64 0), .nils] 0))]⟩, ⟨.tup [], [([17], some (.cells [.d (.str r_2.2.1), .d (.str r_2.2.2.1), .d (.int .i64 r_2.2.2.2.Align), .d (.int .i64 r_2.2.2.2.Combine), .d (.int .u16 r_2.2.2.2.Frame), .d (.int .u8 r_2.2.2.2.Offset), .d (.int .i64 0), .nils] 0))]⟩] (by kernel_rfl) ?_
    refine RunAt.done (by kernel_rfl) ?_
    refine kS_nrm ?_
    refine Runs.ops ?_
    refine RunAt.chunk 2 [⟨.ref [24] 0 0 (List.map Comb.d r_1).length 8, []⟩, ⟨.mix [.d (.str r_2.2.1), .d (.str r_2.2.2.1), .d (.int .i64 r_2.2.2.2.Align), .d (.int .i64 r_2.2.2.2.Combine), .d (.int .u16 r_2.2.2.2.Frame), .d (.int .u8 r_2.2.2.2.Offset), .d (.int .i64 0), .nils], []⟩] (by kernel_rfl) ?_
    refine RunAt.cut (some 43) (.bslice (.agg [.str [], .str [], .int .i64 0, .int .i64 0, .int .u16 0, .int .u8 0, .int .i64 0, .sl []]) 1 [0]) [] none [.mix [.d (.str r_2.2.1), .d (.str r_2.2.2.1), .d (.int .i64 r_2.2.2.2.Align), .d (.int .i64 r_2.2.2.2.Combine), .d (.int .u16 r_2.2.2.2.Frame), .d (.int .u8 r_2.2.2.2.Offset), .d (.int .i64 0), .nils]] (.ref [43] 0 0 (List.map Comb.d ([({ Name := r_2.2.1, Class := r_2.2.2.1, Align := r_2.2.2.2.Align, Combine := r_2.2.2.2.Combine, Frame := r_2.2.2.2.Frame, Offset := r_2.2.2.2.Offset, Len := 0, Chunks := ([] : List Chunk) } : Comb)] : List Comb)).length 8) [([43], some (.arr (List.map Comb.d ([({ Name := r_2.2.1, Class := r_2.2.2.1, Align := r_2.2.2.2.Align, Combine := r_2.2.2.2.Combine, Frame := r_2.2.2.2.Frame, Offset := r_2.2.2.2.Offset, Len := 0, Chunks := ([] : List Chunk) } : Comb)] : List Comb)) 0 false))] (by kernel_rfl) (by kernel_rfl) (by kernel_rfl) (cut_bslice (e := Comb.d) (l := ([({ Name := r_2.2.1, Class := r_2.2.2.1, Align := r_2.2.2.2.Align, Combine := r_2.2.2.2.Combine, Frame := r_2.2.2.2.Frame, Offset := r_2.2.2.2.Offset, Len := 0, Chunks := ([] : List Chunk) } : Comb)] : List Comb)) (ws := []) (ds := [.agg [.str r_2.2.1, .str r_2.2.2.1, .int .i64 r_2.2.2.2.Align, .int .i64 r_2.2.2.2.Combine, .int .u16 r_2.2.2.2.Frame, .int .u8 r_2.2.2.2.Offset, .int .i64 0, .sl (List.map Chunk.d ([] : List Chunk))]]) (snapsM_cons (ws := []) (snap_mix (snaps_d (snaps_d (snaps_d (snaps_d (snaps_d (snaps_d (snaps_d (snaps_n Chunk.d snaps_nil))))))))) snapsM_nil) (by kernel_rfl) (by kernel_rfl) (by kernel_rfl) (by kernel_rfl)) ?_
    obtain ⟨z_1, hz_1, h⟩ := bind_s h
    refine RunAt.cut (some 44) (.append 8 88 false) [] none [.ref [24] 0 0 (List.map Comb.d r_1).length 8, .ref [43] 0 0 (List.map Comb.d ([({ Name := r_2.2.1, Class := r_2.2.2.1, Align := r_2.2.2.2.Align, Combine := r_2.2.2.2.Combine, Frame := r_2.2.2.2.Frame, Offset := r_2.2.2.2.Offset, Len := 0, Chunks := ([] : List Chunk) } : Comb)] : List Comb)).length 8] (.ref [24] 1 0 (List.map Comb.d z_1).length 8) [([43], some (.arr (List.map Comb.d ([({ Name := r_2.2.1, Class := r_2.2.2.1, Align := r_2.2.2.2.Align, Combine := r_2.2.2.2.Combine, Frame := r_2.2.2.2.Frame, Offset := r_2.2.2.2.Offset, Len := 0, Chunks := ([] : List Chunk) } : Comb)] : List Comb)) 0 true)), ([24], some (.arr (List.map Comb.d z_1) 1 false))] (by kernel_rfl) (by kernel_rfl) (by kernel_rfl) (cut_appR (e := Comb.d) (l := r_1) (fz := false) (ws := [([43], some (.arr (List.map Comb.d ([({ Name := r_2.2.1, Class := r_2.2.2.1, Align := r_2.2.2.2.Align, Combine := r_2.2.2.2.Combine, Frame := r_2.2.2.2.Frame, Offset := r_2.2.2.2.Offset, Len := 0, Chunks := ([] : List Chunk) } : Comb)] : List Comb)) 0 true))]) (ap_ref (e := Comb.d) (l := ([({ Name := r_2.2.1, Class := r_2.2.2.1, Align := r_2.2.2.2.Align, Combine := r_2.2.2.2.Combine, Frame := r_2.2.2.2.Frame, Offset := r_2.2.2.2.Offset, Len := 0, Chunks := ([] : List Chunk) } : Comb)] : List Comb)) (fz := false) (by kernel_rfl) (by kernel_rfl) rfl) (fun _ => rfl) hz_1 (by kernel_rfl) (by kernel_rfl) rfl) ?_
    refine RunAt.chunk 1 [⟨.ref [24] 0 0 (List.map Comb.d r_1).length 8, []⟩] (by kernel_rfl) ?_
    refine RunAt.cut (some 46) .lenL [] none [.ref [24] 0 0 (List.map Comb.d r_1).length 8] (.d (.int .i64 (r_1.length : Int))) [] (by kernel_rfl) (by kernel_rfl) (by kernel_rfl) (cut_lenR (e := Comb.d) r_1 rfl) ?_
    refine RunAt.chunk 2 [⟨.ref [24] 1 0 (List.map Comb.d z_1).length 8, []⟩, ⟨.d (.int .i64 (r_1.length : Int)), []⟩] (by kernel_rfl) ?_
    refine RunAt.done (by kernel_rfl) ?_
    refine kS_nrm ?_
    refine Runs.canon (comb_Add_h16 r_2.2.2.2 ({ Mod := mod_, Seg := seg_, Off := 0, Len := 0 } : Chunk) z_1 (r_1.length : Int) 1) (Canon.nil (by kernel_rfl)) ?_
    exact comb_Add_j16_ok l_ name_ class_ d_ mod_ seg_ r_2.2.2.2 ({ Mod := mod_, Seg := seg_, Off := 0, Len := 0 } : Chunk) z_1 (r_1.length : Int) 1 r h
  | false =>
    replace h := ite_f hb_1 h
    refine Runs.cond_f (by kernel_rfl) ?_
    refine Runs.skip ?_
    refine kS_nrm ?_
    refine Runs.canon (comb_Add_h16 r_2.2.2.2 ({ Mod := mod_, Seg := seg_, Off := 0, Len := 0 } : Chunk) r_1 r_2.1 0) (Canon.nil (by kernel_rfl)) ?_
    exact comb_Add_j16_ok l_ name_ class_ d_ mod_ seg_ r_2.2.2.2 ({ Mod := mod_, Seg := seg_, Off := 0, Len := 0 } : Chunk) r_1 r_2.1 0 r h
theorem comb_Add_L (l_ : (List Comb)) (name_ : (List UInt8)) (class_ : (List UInt8)) (d_ : SegDef) (mod_ : Int) (seg_ : Int) (r : ((List Comb) × Int)) (h : comb_Add l_ name_ class_ d_ mod_ seg_ = some r) : L 51 [.d (.sl (List.map Comb.d l_)), .d (.str name_), .d (.str class_), .d (SegDef.d d_), .d (.int .i64 mod_), .d (.int .i64 seg_)] = some (.tup [.d (.sl (List.map Comb.d r.1)), .d (.int .i64 r.2)], [.d (.sl (List.map Comb.d l_)), .d (.str name_), .d (.str class_), .d (SegDef.d d_), .d (.int .i64 mod_), .d (.int .i64 seg_)]) := by
  obtain ⟨p, ⟨hne, hf⟩, hr⟩ := comb_Add_ok l_ name_ class_ d_ mod_ seg_ r h
  obtain ⟨k, hk⟩ := run_of (F := F51) (args := [.d (.sl (List.map Comb.d l_)), .d (.str name_), .d (.str class_), .d (SegDef.d d_), .d (.int .i64 mod_), .d (.int .i64 seg_)]) (ap := [.d (.sl (List.map Comb.d l_)), .d (.str name_), .d (.str class_), .d (SegDef.d d_), .d (.int .i64 mod_), .d (.int .i64 seg_)]) (bx0 := updW (fun _ => none) []) rfl rfl (by kernel_rfl) ⟨p, ⟨hne, hf⟩, hr⟩
  exact lim_run (k := k) rfl hk
def comb_Find_h6 (mod1 : Int) (seg2 : Int) (t13 : (List Comb)) (t14 : Int) (t15 : Int) : St := ⟨tab [(1, .d (.int .i64 mod1)), (2, .d (.int .i64 seg2)), (13, .d (.sl (List.map Comb.d t13))), (14, .d (.int .i64 t14)), (15, .d (.int .i64 t15))], tabB []⟩
def comb_Find_h20 (mod1 : Int) (seg2 : Int) (i9 : Int) (t13 : (List Comb)) (t14 : Int) (t15 : Int) (t21 : (List Chunk)) (t22 : Int) (t23 : Int) : St := ⟨tab [(1, .d (.int .i64 mod1)), (2, .d (.int .i64 seg2)), (9, .d (.int .i64 i9)), (13, .d (.sl (List.map Comb.d t13))), (14, .d (.int .i64 t14)), (15, .d (.int .i64 t15)), (21, .d (.sl (List.map Chunk.d t21))), (22, .d (.int .i64 t22)), (23, .d (.int .i64 t23))], tabB []⟩
def comb_Find_h39 (mod1 : Int) (seg2 : Int) (t13 : (List Comb)) (t14 : Int) (t15 : Int) : St := ⟨tab [(1, .d (.int .i64 mod1)), (2, .d (.int .i64 seg2)), (13, .d (.sl (List.map Comb.d t13))), (14, .d (.int .i64 t14)), (15, .d (.int .i64 t15))], tabB []⟩
def comb_Find_h40  : St := ⟨tab [], tabB []⟩
def comb_Find_Q (l_ : (List Comb)) (mod_ : Int) (seg_ : Int) (r : (Int × Int × Bool)) (p : Out × St) : Prop := (∀ i, p.1 ≠ .exit i) ∧ finF F52 [.d (.sl (List.map Comb.d l_)), .d (.int .i64 mod_), .d (.int .i64 seg_)] p.2 = some (.tup [.d (.int .i64 r.1), .d (.int .i64 r.2.1), .d (.bool r.2.2)], [.d (.sl (List.map Comb.d l_)), .d (.int .i64 mod_), .d (.int .i64 seg_)])
def comb_Find_P20 (l_ : (List Comb)) (mod_ : Int) (seg_ : Int) (mod1 : Int) (seg2 : Int) (i9 : Int) (t13 : (List Comb)) (t14 : Int) (t15 : Int) (t21 : (List Chunk)) (t22 : Int) (e : ((Int × Int × Bool) ⊕ Unit)) (p : Out × St) : Prop := match e with
  | .inl x => p.1 = .ret ∧ finF F52 [.d (.sl (List.map Comb.d l_)), .d (.int .i64 mod_), .d (.int .i64 seg_)] p.2 = some (.tup [.d (.int .i64 x.1), .d (.int .i64 x.2.1), .d (.bool x.2.2)], [.d (.sl (List.map Comb.d l_)), .d (.int .i64 mod_), .d (.int .i64 seg_)])
  | .inr x => p.1 = .exit 2 ∧ ∃ g : Unit, Canon [] [1, 2, 13, 14, 15] [] p.2 (comb_Find_h39 mod1 seg2 t13 t14 t15)
def comb_Find_P6 (l_ : (List Comb)) (mod_ : Int) (seg_ : Int) (mod1 : Int) (seg2 : Int) (t13 : (List Comb)) (t14 : Int) (e : ((Int × Int × Bool) ⊕ Unit)) (p : Out × St) : Prop := match e with
  | .inl x => p.1 = .ret ∧ finF F52 [.d (.sl (List.map Comb.d l_)), .d (.int .i64 mod_), .d (.int .i64 seg_)] p.2 = some (.tup [.d (.int .i64 x.1), .d (.int .i64 x.2.1), .d (.bool x.2.2)], [.d (.sl (List.map Comb.d l_)), .d (.int .i64 mod_), .d (.int .i64 seg_)])
  | .inr x => p.1 = .exit 0 ∧ ∃ g : Unit, Canon [] [] [] p.2 (comb_Find_h40)
theorem comb_Find_l20_ok (l_ : (List Comb)) (mod_ : Int) (seg_ : Int) (mod1 : Int) (seg2 : Int) (i9 : Int) (t13 : (List Comb)) (t14 : Int) (t15 : Int) (t21 : (List Chunk)) (t22 : Int) (t23 : Int) (r : (Lp Int ((Int × Int × Bool) ⊕ Unit))) (h : comb_Find_l20 mod1 seg2 i9 t13 t14 t15 t21 t22 t23 = some r) : Runs L F52l20 (comb_Find_h20 mod1 seg2 i9 t13 t14 t15 t21 t22 t23) (LQ [] [1, 2, 9, 13, 14, 15, 21, 22, 23] [] (fun (x : Int) (g : Unit) => comb_Find_h20 mod1 seg2 i9 t13 t14 t15 t21 t22 x) (comb_Find_P20 l_ mod_ seg_ mod1 seg2 i9 t13 t14 t15 t21 t22) r) := by
  unfold comb_Find_l20 at h
  refine Runs.seq ?_
  refine Runs.ops ?_
  refine RunAt.chunk 1 [⟨.d (.bool (decide (t23 < t22))), []⟩] (by kernel_rfl) ?_
  refine RunAt.done (by kernel_rfl) ?_
  refine kS_nrm ?_
  refine Runs.seq ?_
  cases hb_2 : ((decide (t23 < t22)) : Bool) with
  | true =>
    replace h := ite_t hb_2 h
    refine Runs.cond_t (by kernel_rfl) ?_
    refine Runs.skip ?_
    refine kS_nrm ?_
    refine Runs.seq ?_
    refine Runs.block ?_
    refine Runs.seq ?_
    refine Runs.ops ?_
    obtain ⟨z_2, hz_2, h⟩ := bind_s h
    refine RunAt.cut (some 25) (.iaddrS 4) [] none [.d (.sl (List.map Chunk.d t21)), .d (.int .i64 t23)] (.elt (Chunk.d z_2) 0) [] (by kernel_rfl) (by kernel_rfl) (by kernel_rfl) (cut_at hz_2 (fun _ => rfl)) ?_
    refine RunAt.chunk 3 [⟨.d (Chunk.d z_2), []⟩, ⟨.ptr [12] 0 0, [([12], some (.cells [.d (.int .i64 0), .d (.int .i64 0), .d (.int .i64 0), .d (.int .i64 0)] 0))]⟩, ⟨.tup [], [([12], some (.cells [.d (.int .i64 z_2.Mod), .d (.int .i64 z_2.Seg), .d (.int .i64 z_2.Off), .d (.int .i64 z_2.Len)] 0))]⟩] (by kernel_rfl) ?_
    refine RunAt.done (by kernel_rfl) ?_
    refine kS_nrm ?_
    refine Runs.seq ?_
    refine Runs.ops ?_
    refine RunAt.chunk 5 [⟨.ptr [12] 0 0, []⟩, ⟨.d (.int .i64 z_2.Mod), []⟩, ⟨.d (.int .i64 mod1), []⟩, ⟨.d (.bool (z_2.Mod == mod1)), []⟩, ⟨.d (.bool (z_2.Mod == mod1)), []⟩] (by kernel_rfl) ?_
    cases hb_3 : ((z_2.Mod == mod1) : Bool) with
    | true =>
      replace h := ite_t hb_3 h
      refine RunAt.chunk 5 [⟨.ptr [12] 0 1, []⟩, ⟨.d (.int .i64 z_2.Seg), []⟩, ⟨.d (.int .i64 seg2), []⟩, ⟨.d (.bool (z_2.Seg == seg2)), []⟩, ⟨.d (.bool (z_2.Seg == seg2)), []⟩] (by kernel_rfl) ?_
      refine RunAt.done (by kernel_rfl) ?_
      refine kS_nrm ?_
      cases hb_4 : ((z_2.Seg == seg2) : Bool) with
      | true =>
        replace h := ite_t hb_4 h
        refine Runs.cond_t (by kernel_rfl) ?_
        refine Runs.seq ?_
        refine Runs.ops ?_
        refine RunAt.chunk 6 [⟨.d (.int .i64 i9), []⟩, ⟨.ptr [12] 0 2, []⟩, ⟨.d (.int .i64 z_2.Off), []⟩, ⟨.d (.int .i64 i9), []⟩, ⟨.d (.int .i64 z_2.Off), []⟩, ⟨.d (.bool true), []⟩] (by kernel_rfl) ?_
        refine RunAt.done (by kernel_rfl) ?_
        refine kS_nrm ?_
        refine Runs.ret ?_
        refine kB_ret ?_
        refine kS_ret ?_
        obtain rfl := Option.some.inj h
        exact ⟨nofun, rfl, (by kernel_rfl)⟩
      | false =>
        replace h := ite_f hb_4 h
        refine Runs.cond_f (by kernel_rfl) ?_
        refine Runs.skip ?_
        refine kB_nrm ?_
        refine kS_nrm ?_
        refine Runs.ops ?_
        refine RunAt.chunk 2 [⟨.d (.int .i64 (IntKind.wrap .i64 (t23 + 1))), []⟩, ⟨.d (.int .i64 (IntKind.wrap .i64 (t23 + 1))), []⟩] (by kernel_rfl) ?_
        refine RunAt.done (by kernel_rfl) ?_
        obtain rfl := Option.some.inj h
        exact ⟨rfl, (), (Canon.nil (by kernel_rfl))⟩
    | false =>
      replace h := ite_f hb_3 h
      refine RunAt.chunk 5 [⟨.tup [], []⟩, ⟨.tup [], []⟩, ⟨.tup [], []⟩, ⟨.tup [], []⟩, ⟨.d (.bool false), []⟩] (by kernel_rfl) ?_
      refine RunAt.done (by kernel_rfl) ?_
      refine kS_nrm ?_
      refine Runs.cond_f (by kernel_rfl) ?_
      refine Runs.skip ?_
      refine kB_nrm ?_
      refine kS_nrm ?_
      refine Runs.ops ?_
      refine RunAt.chunk 2 [⟨.d (.int .i64 (IntKind.wrap .i64 (t23 + 1))), []⟩, ⟨.d (.int .i64 (IntKind.wrap .i64 (t23 + 1))), []⟩] (by kernel_rfl) ?_
      refine RunAt.done (by kernel_rfl) ?_
      obtain rfl := Option.some.inj h
      exact ⟨rfl, (), (Canon.nil (by kernel_rfl))⟩
  | false =>
    replace h := ite_f hb_2 h
    refine Runs.cond_f (by kernel_rfl) ?_
    refine Runs.exit ?_
    refine kS_exit ?_
    obtain rfl := Option.some.inj h
    exact ⟨nofun, rfl, (), (Canon.nil (by kernel_rfl))⟩
theorem comb_Find_l6_ok (l_ : (List Comb)) (mod_ : Int) (seg_ : Int) (mod1 : Int) (seg2 : Int) (t13 : (List Comb)) (t14 : Int) (t15 : Int) (r : (Lp Int ((Int × Int × Bool) ⊕ Unit))) (h : comb_Find_l6 mod1 seg2 t13 t14 t15 = some r) : Runs L F52l6 (comb_Find_h6 mod1 seg2 t13 t14 t15) (LQ [] [1, 2, 13, 14, 15] [] (fun (x : Int) (g : Unit) => comb_Find_h6 mod1 seg2 t13 t14 x) (comb_Find_P6 l_ mod_ seg_ mod1 seg2 t13 t14) r) := by
  unfold comb_Find_l6 at h
  refine Runs.seq ?_
  refine Runs.ops ?_
  refine RunAt.chunk 1 [⟨.d (.bool (decide (t15 < t14))), []⟩] (by kernel_rfl) ?_
  refine RunAt.done (by kernel_rfl) ?_
  refine kS_nrm ?_
  refine Runs.seq ?_
  cases hb_1 : ((decide (t15 < t14)) : Bool) with
  | true =>
    replace h := ite_t hb_1 h
    refine Runs.cond_t (by kernel_rfl) ?_
    refine Runs.skip ?_
    refine kS_nrm ?_
    refine Runs.seq ?_
    refine Runs.block ?_
    refine Runs.seq ?_
    refine Runs.ops ?_
    refine RunAt.chunk 1 [⟨.d (.int .i64 t15), []⟩] (by kernel_rfl) ?_
    obtain ⟨z_1, hz_1, h⟩ := bind_s h
    refine RunAt.cut (some 18) (.iaddrS 8) [] none [.d (.sl (List.map Comb.d t13)), .d (.int .i64 t15)] (.elt (Comb.d z_1) 0) [] (by kernel_rfl) (by kernel_rfl) (by kernel_rfl) (cut_at hz_1 (fun _ => rfl)) ?_
    refine RunAt.chunk 4 [⟨.d (Comb.d z_1), []⟩, ⟨.ptr [10] 0 0, [([10], some (.cells [.d (.str []), .d (.str []), .d (.int .i64 0), .d (.int .i64 0), .d (.int .u16 0), .d (.int .u8 0), .d (.int .i64 0), .nils] 0))]⟩, ⟨.d (.int .i64 t15), []⟩, ⟨.tup [], [([10], some (.cells [.d (.str z_1.Name), .d (.str z_1.Class), .d (.int .i64 z_1.Align), .d (.int .i64 z_1.Combine), .d (.int .u16 z_1.Frame), .d (.int .u8 z_1.Offset), .d (.int .i64 z_1.Len), .d (.sl (List.map Chunk.d z_1.Chunks))] 0))]⟩] (by kernel_rfl) ?_
    refine RunAt.done (by kernel_rfl) ?_
    refine kS_nrm ?_
    refine Runs.seq ?_
    refine Runs.ops ?_
    refine RunAt.chunk 2 [⟨.ptr [10] 0 7, []⟩, ⟨.d (.sl (List.map Chunk.d z_1.Chunks)), []⟩] (by kernel_rfl) ?_
    refine RunAt.cut (some 22) .lenL [] none [.d (.sl (List.map Chunk.d z_1.Chunks))] (.d (.int .i64 (z_1.Chunks.length : Int))) [] (by kernel_rfl) (by kernel_rfl) (by kernel_rfl) (cut_len _) ?_
    refine RunAt.chunk 1 [⟨.d (.int .i64 0), []⟩] (by kernel_rfl) ?_
    refine RunAt.done (by kernel_rfl) ?_
    refine kS_nrm ?_
    refine Runs.block ?_
    obtain ⟨e_1, he_1, h⟩ := bind_s h
    refine Runs.loop (fun x : Int => comb_Find_l20 mod1 seg2 t15 t13 t14 t15 z_1.Chunks (z_1.Chunks.length : Int) x) (fun (x : Int) (g : Unit) => comb_Find_h20 mod1 seg2 t15 t13 t14 t15 z_1.Chunks (z_1.Chunks.length : Int) x) (comb_Find_P20 l_ mod_ seg_ mod1 seg2 t15 t13 t14 t15 z_1.Chunks (z_1.Chunks.length : Int)) (fun x g r hr => comb_Find_l20_ok l_ mod_ seg_ mod1 seg2 t15 t13 t14 t15 z_1.Chunks (z_1.Chunks.length : Int) x  r hr) () he_1 (Canon.nil (by kernel_rfl)) ?_
    rintro ⟨o, s⟩ hp
    cases e_1 with
    | inl e_2 =>
      obtain ⟨ho, hf⟩ := hp
      have ho' : o = .ret := ho
      subst ho'
      refine kB_ret ?_
      refine kB_ret ?_
      refine kS_ret ?_
      obtain rfl := Option.some.inj h
      exact ⟨nofun, rfl, hf⟩
    | inr e_3 =>
      obtain ⟨ho, g_1, hk_1⟩ := hp
      have ho' : o = .exit 2 := ho
      subst ho'
      refine kB_hit ?_
      refine kB_nrm ?_
      refine kS_nrm ?_
      refine Runs.canon _ hk_1 ?_
      refine Runs.ops ?_
      refine RunAt.chunk 2 [⟨.d (.int .i64 (IntKind.wrap .i64 (t15 + 1))), []⟩, ⟨.d (.int .i64 (IntKind.wrap .i64 (t15 + 1))), []⟩] (by kernel_rfl) ?_
      refine RunAt.done (by kernel_rfl) ?_
      obtain rfl := Option.some.inj h
      exact ⟨rfl, (), (Canon.nil (by kernel_rfl))⟩
  | false =>
    replace h := ite_f hb_1 h
    refine Runs.cond_f (by kernel_rfl) ?_
    refine Runs.exit ?_
    refine kS_exit ?_
    obtain rfl := Option.some.inj h
    exact ⟨nofun, rfl, (), (Canon.nil (by kernel_rfl))⟩
theorem comb_Find_ok (l_ : (List Comb)) (mod_ : Int) (seg_ : Int) (r : (Int × Int × Bool)) (h : comb_Find l_ mod_ seg_ = some r) : Runs L F52.body ⟨tmOf [.d (.sl (List.map Comb.d l_)), .d (.int .i64 mod_), .d (.int .i64 seg_)] 0, updW (fun _ => none) []⟩ (comb_Find_Q l_ mod_ seg_ r) := by
  unfold comb_Find at h
  refine Runs.seq ?_
  refine Runs.ops ?_
  refine RunAt.chunk 3 [⟨.d (.int .i64 0), []⟩, ⟨.d (.int .i64 0), []⟩, ⟨.d (.bool false), []⟩] (by kernel_rfl) ?_
  refine RunAt.done (by kernel_rfl) ?_
  refine kS_nrm ?_
  refine Runs.seq ?_
  refine Runs.seq ?_
  refine Runs.ops ?_
  refine RunAt.chunk 1 [⟨.d (.sl (List.map Comb.d l_)), []⟩] (by kernel_rfl) ?_
  refine RunAt.cut (some 14) .lenL [] none [.d (.sl (List.map Comb.d l_))] (.d (.int .i64 (l_.length : Int))) [] (by kernel_rfl) (by kernel_rfl) (by kernel_rfl) (cut_len _) ?_
  refine RunAt.chunk 1 [⟨.d (.int .i64 0), []⟩] (by kernel_rfl) ?_
  refine RunAt.done (by kernel_rfl) ?_
  refine kS_nrm ?_
  refine Runs.block ?_
  obtain ⟨e_1, he_1, h⟩ := bind_s h
  refine Runs.loop (fun x : Int => comb_Find_l6 mod_ seg_ l_ (l_.length : Int) x) (fun (x : Int) (g : Unit) => comb_Find_h6 mod_ seg_ l_ (l_.length : Int) x) (comb_Find_P6 l_ mod_ seg_ mod_ seg_ l_ (l_.length : Int)) (fun x g r hr => comb_Find_l6_ok l_ mod_ seg_ mod_ seg_ l_ (l_.length : Int) x  r hr) () he_1 (Canon.nil (by kernel_rfl)) ?_
  rintro ⟨o, s⟩ hp
  cases e_1 with
  | inl e_2 =>
    obtain ⟨ho, hf⟩ := hp
    have ho' : o = .ret := ho
    subst ho'
    refine kB_ret ?_
    refine kS_ret ?_
    obtain rfl := Option.some.inj h
    exact ⟨Out.ret_ne, hf⟩
  | inr e_3 =>
    obtain ⟨ho, g_1, hk_1⟩ := hp
    have ho' : o = .exit 0 := ho
    subst ho'
    refine kB_hit ?_
    refine kS_nrm ?_
    refine Runs.canon _ hk_1 ?_
    refine Runs.seq ?_
    refine Runs.ops ?_
    refine RunAt.chunk 3 [⟨.d (.int .i64 0), []⟩, ⟨.d (.int .i64 0), []⟩, ⟨.d (.bool false), []⟩] (by kernel_rfl) ?_
    refine RunAt.done (by kernel_rfl) ?_
    refine kS_nrm ?_
    refine Runs.ret ?_
    obtain rfl := Option.some.inj h
    exact ⟨Out.ret_ne, (by kernel_rfl)⟩
theorem comb_Find_L (l_ : (List Comb)) (mod_ : Int) (seg_ : Int) (r : (Int × Int × Bool)) (h : comb_Find l_ mod_ seg_ = some r) : L 52 [.d (.sl (List.map Comb.d l_)), .d (.int .i64 mod_), .d (.int .i64 seg_)] = some (.tup [.d (.int .i64 r.1), .d (.int .i64 r.2.1), .d (.bool r.2.2)], [.d (.sl (List.map Comb.d l_)), .d (.int .i64 mod_), .d (.int .i64 seg_)]) := by
  obtain ⟨p, ⟨hne, hf⟩, hr⟩ := comb_Find_ok l_ mod_ seg_ r h
  obtain ⟨k, hk⟩ := run_of (F := F52) (args := [.d (.sl (List.map Comb.d l_)), .d (.int .i64 mod_), .d (.int .i64 seg_)]) (ap := [.d (.sl (List.map Comb.d l_)), .d (.int .i64 mod_), .d (.int .i64 seg_)]) (bx0 := updW (fun _ => none) []) rfl rfl (by kernel_rfl) ⟨p, ⟨hne, hf⟩, hr⟩
  exact lim_run (k := k) rfl hk
def hansomlaw40_step_Q (align_ : Int) (r : Int) (p : Out × St) : Prop := (∀ i, p.1 ≠ .exit i) ∧ finF F50 [.d (.int .i64 align_)] p.2 = some (.d (.int .i64 r), [.d (.int .i64 align_)])
theorem hansomlaw40_step_ok (align_ : Int) (r : Int) (h : hansomlaw40_step align_ = some r) : Runs L F50.body ⟨tmOf [.d (.int .i64 align_)] 0, updW (fun _ => none) []⟩ (hansomlaw40_step_Q align_ r) := by
  unfold hansomlaw40_step at h
  refine Runs.seq ?_
  refine Runs.ops ?_
  refine RunAt.chunk 1 [⟨.d (.int .i64 0), []⟩] (by kernel_rfl) ?_
  refine RunAt.done (by kernel_rfl) ?_
  refine kS_nrm ?_
  refine Runs.seq ?_
  refine Runs.ops ?_
  refine RunAt.chunk 2 [⟨.ref [3] 0 0 (List.map (D.int .i64) ([1, 1, 2, 16, 256] : List Int)).length 1, [([3], some (.arr (List.map (D.int .i64) ([1, 1, 2, 16, 256] : List Int)) 0 false))]⟩, ⟨.d (.int .i64 align_), []⟩] (by kernel_rfl) ?_
  obtain ⟨z_1, hz_1, h⟩ := bind_s h
  refine RunAt.cut (some 5) (.iaddrS 1) [] none [.ref [3] 0 0 (List.map (D.int .i64) ([1, 1, 2, 16, 256] : List Int)).length 1, .d (.int .i64 align_)] (.eref [3] 0 (0 + (align_).toNat) 0) [] (by kernel_rfl) (by kernel_rfl) (by kernel_rfl) (cut_atR (e := (D.int .i64)) (l := ([1, 1, 2, 16, 256] : List Int)) hz_1 rfl) ?_
  refine RunAt.cut (some 6) (.load none) [] none [.eref [3] 0 (0 + (align_).toNat) 0] (.d (.int .i64 z_1)) [] (by kernel_rfl) (by kernel_rfl) (by kernel_rfl) (cut_loadR (e := (D.int .i64)) (l := ([1, 1, 2, 16, 256] : List Int)) (fz := false) (y := z_1) (by kernel_rfl) hz_1 (by kernel_rfl) (by kernel_rfl)) ?_
  refine RunAt.chunk 1 [⟨.d (.int .i64 z_1), []⟩] (by kernel_rfl) ?_
  refine RunAt.done (by kernel_rfl) ?_
  refine kS_nrm ?_
  refine Runs.ret ?_
  obtain rfl := Option.some.inj h
  exact ⟨Out.ret_ne, (by kernel_rfl)⟩
theorem hansomlaw40_step_L (align_ : Int) (r : Int) (h : hansomlaw40_step align_ = some r) : L 50 [.d (.int .i64 align_)] = some (.d (.int .i64 r), [.d (.int .i64 align_)]) := by
  obtain ⟨p, ⟨hne, hf⟩, hr⟩ := hansomlaw40_step_ok align_ r h
  obtain ⟨k, hk⟩ := run_of (F := F50) (args := [.d (.int .i64 align_)]) (ap := [.d (.int .i64 align_)]) (bx0 := updW (fun _ => none) []) rfl rfl (by kernel_rfl) ⟨p, ⟨hne, hf⟩, hr⟩
  exact lim_run (k := k) rfl hk
def hansomref01_Up_h8 (n0 : Int) (step1 : Int) (power5 : Bool) (p6 : Int) : St := ⟨tab [(0, .d (.int .i64 n0)), (1, .d (.int .i64 step1)), (5, .d (.bool power5)), (6, .d (.int .i64 p6))], tabB []⟩
def hansomref01_Up_h19 (n0 : Int) (step1 : Int) (power5 : Bool) : St := ⟨tab [(0, .d (.int .i64 n0)), (1, .d (.int .i64 step1)), (5, .d (.bool power5))], tabB []⟩
def hansomref01_Up_h25 (n0 : Int) (step1 : Int) : St := ⟨tab [(0, .d (.int .i64 n0)), (1, .d (.int .i64 step1))], tabB []⟩
def hansomref01_Up_Q (n_ : Int) (step_ : Int) (r : Int) (p : Out × St) : Prop := (∀ i, p.1 ≠ .exit i) ∧ finF F43 [.d (.int .i64 n_), .d (.int .i64 step_)] p.2 = some (.d (.int .i64 r), [.d (.int .i64 n_), .d (.int .i64 step_)])
def hansomref01_Up_P8 (n_ : Int) (step_ : Int) (n0 : Int) (step1 : Int) (e : Bool) (p : Out × St) : Prop := p.1 = .exit 0 ∧ ∃ g : Unit, Canon [] [0, 1, 5] [] p.2 (hansomref01_Up_h19 n0 step1 e)
theorem hansomref01_Up_l8_ok (n_ : Int) (step_ : Int) (n0 : Int) (step1 : Int) (power5 : Bool) (p6 : Int) (r : (Lp (Bool × Int) Bool)) (h : hansomref01_Up_l8 n0 step1 power5 p6 = some r) : Runs L F43l8 (hansomref01_Up_h8 n0 step1 power5 p6) (LQ [] [0, 1, 5, 6] [] (fun (x : (Bool × Int)) (g : Unit) => hansomref01_Up_h8 n0 step1 x.1 x.2) (hansomref01_Up_P8 n_ step_ n0 step1) r) := by
  unfold hansomref01_Up_l8 at h
  refine Runs.seq ?_
  refine Runs.seq ?_
  refine Runs.ops ?_
  refine RunAt.chunk 2 [⟨.d (.int .i64 p6), []⟩, ⟨.d (.bool (decide (p6 ≤ 4096))), []⟩] (by kernel_rfl) ?_
  refine RunAt.done (by kernel_rfl) ?_
  refine kS_nrm ?_
  cases hb_1 : ((decide (p6 ≤ 4096)) : Bool) with
  | true =>
    replace h := ite_t hb_1 h
    refine Runs.cond_t (by kernel_rfl) ?_
    refine Runs.skip ?_
    refine kS_nrm ?_
    refine Runs.seq ?_
    refine Runs.block ?_
    refine Runs.ops ?_
    refine RunAt.chunk 2 [⟨.d (.bool power5), []⟩, ⟨.d (.bool power5), []⟩] (by kernel_rfl) ?_
    cases hb_2 : (power5 : Bool) with
    | true =>
      replace h := ite_t hb_2 h
      refine RunAt.chunk 5 [⟨.tup [], []⟩, ⟨.tup [], []⟩, ⟨.tup [], []⟩, ⟨.d (.bool true), []⟩, ⟨.d (.bool true), []⟩] (by kernel_rfl) ?_
      refine RunAt.done (by kernel_rfl) ?_
      refine kB_nrm ?_
      refine kS_nrm ?_
      refine Runs.ops ?_
      refine RunAt.chunk 3 [⟨.d (.int .i64 p6), []⟩, ⟨.d (.int .i64 (IntKind.wrap .i64 (p6 * 2))), []⟩, ⟨.d (.int .i64 (IntKind.wrap .i64 (p6 * 2))), []⟩] (by kernel_rfl) ?_
      refine RunAt.done (by kernel_rfl) ?_
      obtain rfl := Option.some.inj h
      exact ⟨rfl, (), (Canon.nil (by kernel_rfl))⟩
    | false =>
      replace h := ite_f hb_2 h
      refine RunAt.chunk 5 [⟨.d (.int .i64 step1), []⟩, ⟨.d (.int .i64 p6), []⟩, ⟨.d (.bool (step1 == p6)), []⟩, ⟨.d (.bool (step1 == p6)), []⟩, ⟨.d (.bool (step1 == p6)), []⟩] (by kernel_rfl) ?_
      refine RunAt.done (by kernel_rfl) ?_
      refine kB_nrm ?_
      refine kS_nrm ?_
      refine Runs.ops ?_
      refine RunAt.chunk 3 [⟨.d (.int .i64 p6), []⟩, ⟨.d (.int .i64 (IntKind.wrap .i64 (p6 * 2))), []⟩, ⟨.d (.int .i64 (IntKind.wrap .i64 (p6 * 2))), []⟩] (by kernel_rfl) ?_
      refine RunAt.done (by kernel_rfl) ?_
      obtain rfl := Option.some.inj h
      exact ⟨rfl, (), (Canon.nil (by kernel_rfl))⟩
  | false =>
    replace h := ite_f hb_1 h
    refine Runs.cond_f (by kernel_rfl) ?_
    refine Runs.exit ?_
    refine kS_exit ?_
    obtain rfl := Option.some.inj h
    exact ⟨nofun, rfl, (), (Canon.nil (by kernel_rfl))⟩
theorem hansomref01_Up_j25_ok (n_ : Int) (step_ : Int) (n0 : Int) (step1 : Int) (r : Int) (h : hansomref01_Up_j25 n0 step1 = some r) : Runs L F43b25 (hansomref01_Up_h25 n0 step1) (hansomref01_Up_Q n_ step_ r) := by
  unfold hansomref01_Up_j25 at h
  refine Runs.seq ?_
  refine Runs.seq ?_
  refine Runs.ops ?_
  refine RunAt.chunk 2 [⟨.d (.int .i64 n0), []⟩, ⟨.d (.bool (decide (n0 < 0))), []⟩] (by kernel_rfl) ?_
  refine RunAt.done (by kernel_rfl) ?_
  refine kS_nrm ?_
  cases hb_2 : ((decide (n0 < 0)) : Bool) with
  | true =>
    replace h := ite_t hb_2 h
    refine Runs.cond_t (by kernel_rfl) ?_
    refine Runs.ops ?_
    refine RunAt.chunk 1 [⟨.d (.int .i64 0), []⟩] (by kernel_rfl) ?_
    refine RunAt.done (by kernel_rfl) ?_
    refine kS_nrm ?_
    refine Runs.seq ?_
    refine Runs.seq ?_
    refine Runs.ops ?_
    refine RunAt.chunk 2 [⟨.d (.int .i64 0), []⟩, ⟨.d (.bool false), []⟩] (by kernel_rfl) ?_
    refine RunAt.done (by kernel_rfl) ?_
    refine kS_nrm ?_
    refine Runs.cond_f (by kernel_rfl) ?_
    refine Runs.skip ?_
    refine kS_nrm ?_
    refine Runs.seq ?_
    refine Runs.ops ?_
    refine RunAt.chunk 5 [⟨.d (.int .i64 0), []⟩, ⟨.d (.int .i64 step1), []⟩, ⟨.d (.int .i64 (IntKind.wrap .i64 (0 + step1))), []⟩, ⟨.d (.int .i64 (IntKind.wrap .i64 ((IntKind.wrap .i64 (0 + step1)) - 1))), []⟩, ⟨.d (.int .i64 step1), []⟩] (by kernel_rfl) ?_
    obtain ⟨z_1, hz_1, h⟩ := bind_s h
    refine RunAt.cut (some 28) (.bin .quo) [] none [.d (.int .i64 (IntKind.wrap .i64 ((IntKind.wrap .i64 (0 + step1)) - 1))), .d (.int .i64 step1)] (.d (.int .i64 z_1)) [] (by kernel_rfl) (by kernel_rfl) (by kernel_rfl) (cut_quo hz_1) ?_
    refine RunAt.chunk 3 [⟨.d (.int .i64 step1), []⟩, ⟨.d (.int .i64 (IntKind.wrap .i64 (z_1 * step1))), []⟩, ⟨.d (.int .i64 (IntKind.wrap .i64 (z_1 * step1))), []⟩] (by kernel_rfl) ?_
    refine RunAt.done (by kernel_rfl) ?_
    refine kS_nrm ?_
    refine Runs.ret ?_
    obtain rfl := Option.some.inj h
    exact ⟨Out.ret_ne, (by kernel_rfl)⟩
  | false =>
    replace h := ite_f hb_2 h
    refine Runs.cond_f (by kernel_rfl) ?_
    refine Runs.skip ?_
    refine kS_nrm ?_
    refine Runs.seq ?_
    refine Runs.seq ?_
    refine Runs.ops ?_
    refine RunAt.chunk 2 [⟨.d (.int .i64 n0), []⟩, ⟨.d (.bool (decide (n0 > 16777216))), []⟩] (by kernel_rfl) ?_
    refine RunAt.done (by kernel_rfl) ?_
    refine kS_nrm ?_
    cases hb_3 : ((decide (n0 > 16777216)) : Bool) with
    | true =>
      replace h := ite_t hb_3 h
      refine Runs.cond_t (by kernel_rfl) ?_
      refine Runs.ops ?_
      refine RunAt.chunk 1 [⟨.d (.int .i64 16777216), []⟩] (by kernel_rfl) ?_
      refine RunAt.done (by kernel_rfl) ?_
      refine kS_nrm ?_
      refine Runs.seq ?_
      refine Runs.ops ?_
      refine RunAt.chunk 5 [⟨.d (.int .i64 16777216), []⟩, ⟨.d (.int .i64 step1), []⟩, ⟨.d (.int .i64 (IntKind.wrap .i64 (16777216 + step1))), []⟩, ⟨.d (.int .i64 (IntKind.wrap .i64 ((IntKind.wrap .i64 (16777216 + step1)) - 1))), []⟩, ⟨.d (.int .i64 step1), []⟩] (by kernel_rfl) ?_
      obtain ⟨z_2, hz_2, h⟩ := bind_s h
      refine RunAt.cut (some 28) (.bin .quo) [] none [.d (.int .i64 (IntKind.wrap .i64 ((IntKind.wrap .i64 (16777216 + step1)) - 1))), .d (.int .i64 step1)] (.d (.int .i64 z_2)) [] (by kernel_rfl) (by kernel_rfl) (by kernel_rfl) (cut_quo hz_2) ?_
      refine RunAt.chunk 3 [⟨.d (.int .i64 step1), []⟩, ⟨.d (.int .i64 (IntKind.wrap .i64 (z_2 * step1))), []⟩, ⟨.d (.int .i64 (IntKind.wrap .i64 (z_2 * step1))), []⟩] (by kernel_rfl) ?_
      refine RunAt.done (by kernel_rfl) ?_
      refine kS_nrm ?_
      refine Runs.ret ?_
      obtain rfl := Option.some.inj h
      exact ⟨Out.ret_ne, (by kernel_rfl)⟩
    | false =>
      replace h := ite_f hb_3 h
      refine Runs.cond_f (by kernel_rfl) ?_
      refine Runs.skip ?_
      refine kS_nrm ?_
      refine Runs.seq ?_
      refine Runs.ops ?_
      refine RunAt.chunk 5 [⟨.d (.int .i64 n0), []⟩, ⟨.d (.int .i64 step1), []⟩, ⟨.d (.int .i64 (IntKind.wrap .i64 (n0 + step1))), []⟩, ⟨.d (.int .i64 (IntKind.wrap .i64 ((IntKind.wrap .i64 (n0 + step1)) - 1))), []⟩, ⟨.d (.int .i64 step1), []⟩] (by kernel_rfl) ?_
      obtain ⟨z_3, hz_3, h⟩ := bind_s h
      refine RunAt.cut (some 28) (.bin .quo) [] none [.d (.int .i64 (IntKind.wrap .i64 ((IntKind.wrap .i64 (n0 + step1)) - 1))), .d (.int .i64 step1)] (.d (.int .i64 z_3)) [] (by kernel_rfl) (by kernel_rfl) (by kernel_rfl) (cut_quo hz_3) ?_
      refine RunAt.chunk 3 [⟨.d (.int .i64 step1), []⟩, ⟨.d (.int .i64 (IntKind.wrap .i64 (z_3 * step1))), []⟩, ⟨.d (.int .i64 (IntKind.wrap .i64 (z_3 * step1))), []⟩] (by kernel_rfl) ?_
      refine RunAt.done (by kernel_rfl) ?_
      refine kS_nrm ?_
      refine Runs.ret ?_
      obtain rfl := Option.some.inj h
      exact ⟨Out.ret_ne, (by kernel_rfl)⟩
theorem hansomref01_Up_ok (n_ : Int) (step_ : Int) (r : Int) (h : hansomref01_Up n_ step_ = some r) : Runs L F43.body ⟨tmOf [.d (.int .i64 n_), .d (.int .i64 step_)] 0, updW (fun _ => none) []⟩ (hansomref01_Up_Q n_ step_ r) := by
  unfold hansomref01_Up at h
  refine Runs.seq ?_
  refine Runs.ops ?_
  refine RunAt.chunk 1 [⟨.d (.int .i64 0), []⟩] (by kernel_rfl) ?_
  refine RunAt.done (by kernel_rfl) ?_
  refine kS_nrm ?_
  refine Runs.seq ?_
  refine Runs.ops ?_
  refine RunAt.chunk 1 [⟨.d (.bool false), []⟩] (by kernel_rfl) ?_
  refine RunAt.done (by kernel_rfl) ?_
  refine kS_nrm ?_
  refine Runs.seq ?_
  refine Runs.seq ?_
  refine Runs.ops ?_
  refine RunAt.chunk 1 [⟨.d (.int .i64 1), []⟩] (by kernel_rfl) ?_
  refine RunAt.done (by kernel_rfl) ?_
  refine kS_nrm ?_
  refine Runs.block ?_
  obtain ⟨e_1, he_1, h⟩ := bind_s h
  refine Runs.loop (fun x : (Bool × Int) => hansomref01_Up_l8 n_ step_ x.1 x.2) (fun (x : (Bool × Int)) (g : Unit) => hansomref01_Up_h8 n_ step_ x.1 x.2) (hansomref01_Up_P8 n_ step_ n_ step_) (fun x g r hr => hansomref01_Up_l8_ok n_ step_ n_ step_ x.1 x.2  r hr) () he_1 (Canon.nil (by kernel_rfl)) ?_
  rintro ⟨o, s⟩ hp
  obtain ⟨ho, g_1, hk_1⟩ := hp
  have ho' : o = .exit 0 := ho
  subst ho'
  refine kB_hit ?_
  refine kS_nrm ?_
  refine Runs.canon _ hk_1 ?_
  refine Runs.seq ?_
  refine Runs.seq ?_
  refine Runs.ops ?_
  refine RunAt.chunk 2 [⟨.d (.bool e_1), []⟩, ⟨.d (.bool (!e_1)), []⟩] (by kernel_rfl) ?_
  refine RunAt.done (by kernel_rfl) ?_
  refine kS_nrm ?_
  cases hb_1 : ((!e_1) : Bool) with
  | true =>
    replace h := ite_t hb_1 h
    refine Runs.cond_t (by kernel_rfl) ?_
    refine Runs.ops ?_
    refine RunAt.chunk 1 [⟨.d (.int .i64 1), []⟩] (by kernel_rfl) ?_
    refine RunAt.done (by kernel_rfl) ?_
    refine kS_nrm ?_
    refine Runs.canon (hansomref01_Up_h25 n_ 1) (Canon.nil (by kernel_rfl)) ?_
    exact hansomref01_Up_j25_ok n_ step_ n_ 1 r h
  | false =>
    replace h := ite_f hb_1 h
    refine Runs.cond_f (by kernel_rfl) ?_
    refine Runs.skip ?_
    refine kS_nrm ?_
    refine Runs.canon (hansomref01_Up_h25 n_ step_) (Canon.nil (by kernel_rfl)) ?_
    exact hansomref01_Up_j25_ok n_ step_ n_ step_ r h
theorem hansomref01_Up_L (n_ : Int) (step_ : Int) (r : Int) (h : hansomref01_Up n_ step_ = some r) : L 43 [.d (.int .i64 n_), .d (.int .i64 step_)] = some (.d (.int .i64 r), [.d (.int .i64 n_), .d (.int .i64 step_)]) := by
  obtain ⟨p, ⟨hne, hf⟩, hr⟩ := hansomref01_Up_ok n_ step_ r h
  obtain ⟨k, hk⟩ := run_of (F := F43) (args := [.d (.int .i64 n_), .d (.int .i64 step_)]) (ap := [.d (.int .i64 n_), .d (.int .i64 step_)]) (bx0 := updW (fun _ => none) []) rfl rfl (by kernel_rfl) ⟨p, ⟨hne, hf⟩, hr⟩
  exact lim_run (k := k) rfl hk
def hansomlaw40_awake_Q  (r : Bool) (p : Out × St) : Prop := (∀ i, p.1 ≠ .exit i) ∧ finF F53 [] p.2 = some (.d (.bool r), [])
theorem hansomlaw40_awake_ok  (r : Bool) (h : hansomlaw40_awake = some r) : Runs L F53.body ⟨tmOf [] 0, updW (fun _ => none) []⟩ (hansomlaw40_awake_Q  r) := by
  unfold hansomlaw40_awake at h
  refine Runs.seq ?_
  refine Runs.ops ?_
  refine RunAt.chunk 1 [⟨.d (.bool false), []⟩] (by kernel_rfl) ?_
  refine RunAt.done (by kernel_rfl) ?_
  refine kS_nrm ?_
  refine Runs.seq ?_
  refine Runs.ops ?_
  refine RunAt.chunk 1 [⟨.d (.agg [.int .i64 2, .int .i64 2, .int .u16 0, .int .u8 0, .int .i64 3, .int .i64 0, .int .i64 0, .int .i64 0]), []⟩] (by kernel_rfl) ?_
  obtain ⟨r_1, hr_1, h⟩ := bind_s h
  have hc_1 := comb_Add_L ([] : List Comb) ([65] : List UInt8) ([] : List UInt8) ({ Align := 2, Combine := 2, Frame := 0, Offset := 0, Len := 3, Name := 0, Class := 0, Overlay := 0 } : SegDef) 0 1 r_1 hr_1
  refine RunAt.cut (some 10) (.callf 51) [] none [.nils, .d (.str ([65] : List UInt8)), .d (.str ([] : List UInt8)), .d (.agg [.int .i64 2, .int .i64 2, .int .u16 0, .int .u8 0, .int .i64 3, .int .i64 0, .int .i64 0, .int .i64 0]), .d (.int .i64 0), .d (.int .i64 1)] (.tup [.d (.sl (List.map Comb.d r_1.1)), .d (.int .i64 r_1.2)]) [] (by kernel_rfl) (by kernel_rfl) (by kernel_rfl) (cut_call (call_of (ws := []) (us := []) (by kernel_rfl) (gives_cons (ws := []) (give_same (by kernel_rfl)) (gives_cons (ws := []) (give_same (by kernel_rfl)) (gives_cons (ws := []) (give_same (by kernel_rfl)) (gives_cons (ws := []) (give_same (by kernel_rfl)) (gives_cons (ws := []) (give_same (by kernel_rfl)) (gives_cons (ws := []) (give_same (by kernel_rfl)) gives_nil)))))) hc_1 (by kernel_rfl) (by kernel_rfl))) ?_
  refine RunAt.chunk 5 [⟨.tup [.d (.sl (List.map Comb.d r_1.1)), .d (.int .i64 r_1.2)], []⟩, ⟨.d (.sl (List.map Comb.d r_1.1)), []⟩, ⟨.d (.int .i64 r_1.2), []⟩, ⟨.d (.sl (List.map Comb.d r_1.1)), []⟩, ⟨.d (.int .i64 r_1.2), []⟩] (by kernel_rfl) ?_
  refine RunAt.done (by kernel_rfl) ?_
  refine kS_nrm ?_
  refine Runs.seq ?_
  refine Runs.ops ?_
  refine RunAt.chunk 2 [⟨.d (.sl (List.map Comb.d r_1.1)), []⟩, ⟨.d (.agg [.int .i64 2, .int .i64 2, .int .u16 0, .int .u8 0, .int .i64 3, .int .i64 0, .int .i64 0, .int .i64 0]), []⟩] (by kernel_rfl) ?_
  obtain ⟨r_2, hr_2, h⟩ := bind_s h
  have hc_2 := comb_Add_L r_1.1 ([65] : List UInt8) ([] : List UInt8) ({ Align := 2, Combine := 2, Frame := 0, Offset := 0, Len := 3, Name := 0, Class := 0, Overlay := 0 } : SegDef) 1 1 r_2 hr_2
  refine RunAt.cut (some 16) (.callf 51) [] none [.d (.sl (List.map Comb.d r_1.1)), .d (.str ([65] : List UInt8)), .d (.str ([] : List UInt8)), .d (.agg [.int .i64 2, .int .i64 2, .int .u16 0, .int .u8 0, .int .i64 3, .int .i64 0, .int .i64 0, .int .i64 0]), .d (.int .i64 1), .d (.int .i64 1)] (.tup [.d (.sl (List.map Comb.d r_2.1)), .d (.int .i64 r_2.2)]) [] (by kernel_rfl) (by kernel_rfl) (by kernel_rfl) (cut_call (call_of (ws := []) (us := []) (by kernel_rfl) (by kernel_rfl) hc_2 (by kernel_rfl) (by kernel_rfl))) ?_
  refine RunAt.chunk 5 [⟨.tup [.d (.sl (List.map Comb.d r_2.1)), .d (.int .i64 r_2.2)], []⟩, ⟨.d (.sl (List.map Comb.d r_2.1)), []⟩, ⟨.d (.int .i64 r_2.2), []⟩, ⟨.d (.sl (List.map Comb.d r_2.1)), []⟩, ⟨.d (.int .i64 r_2.2), []⟩] (by kernel_rfl) ?_
  refine RunAt.done (by kernel_rfl) ?_
  refine kS_nrm ?_
  refine Runs.seq ?_
  refine Runs.ops ?_
  refine RunAt.chunk 1 [⟨.d (.sl (List.map Comb.d r_2.1)), []⟩] (by kernel_rfl) ?_
  obtain ⟨r_3, hr_3, h⟩ := bind_s h
  have hc_3 := comb_Find_L r_2.1 1 1 r_3 hr_3
  refine RunAt.cut (some 21) (.callf 52) [] none [.d (.sl (List.map Comb.d r_2.1)), .d (.int .i64 1), .d (.int .i64 1)] (.tup [.d (.int .i64 r_3.1), .d (.int .i64 r_3.2.1), .d (.bool r_3.2.2)]) [] (by kernel_rfl) (by kernel_rfl) (by kernel_rfl) (cut_call (call_of (ws := []) (us := []) (by kernel_rfl) (by kernel_rfl) hc_3 (by kernel_rfl) (by kernel_rfl))) ?_
  refine RunAt.chunk 7 [⟨.tup [.d (.int .i64 r_3.1), .d (.int .i64 r_3.2.1), .d (.bool r_3.2.2)], []⟩, ⟨.d (.int .i64 r_3.1), []⟩, ⟨.d (.int .i64 r_3.2.1), []⟩, ⟨.d (.bool r_3.2.2), []⟩, ⟨.d (.int .i64 r_3.1), []⟩, ⟨.d (.int .i64 r_3.2.1), []⟩, ⟨.d (.bool r_3.2.2), []⟩] (by kernel_rfl) ?_
  refine RunAt.done (by kernel_rfl) ?_
  refine kS_nrm ?_
  refine Runs.seq ?_
  refine Runs.ops ?_
  refine RunAt.chunk 3 [⟨.d (.int .i64 r_1.2), []⟩, ⟨.d (.bool (r_1.2 == 0)), []⟩, ⟨.d (.bool (r_1.2 == 0)), []⟩] (by kernel_rfl) ?_
  cases hb_1 : ((r_1.2 == 0) : Bool) with
  | true =>
    replace h := ite_t hb_1 h
    refine RunAt.chunk 4 [⟨.d (.int .i64 r_2.2), []⟩, ⟨.d (.bool (r_2.2 == 0)), []⟩, ⟨.d (.bool (r_2.2 == 0)), []⟩, ⟨.d (.bool (r_2.2 == 0)), []⟩] (by kernel_rfl) ?_
    cases hb_2 : ((r_2.2 == 0) : Bool) with
    | true =>
      replace h := ite_t hb_2 h
      refine RunAt.chunk 1 [⟨.d (.sl (List.map Comb.d r_2.1)), []⟩] (by kernel_rfl) ?_
      refine RunAt.cut (some 33) .lenL [] none [.d (.sl (List.map Comb.d r_2.1))] (.d (.int .i64 (r_2.1.length : Int))) [] (by kernel_rfl) (by kernel_rfl) (by kernel_rfl) (cut_len _) ?_
      refine RunAt.chunk 3 [⟨.d (.bool ((r_2.1.length : Int) == 1)), []⟩, ⟨.d (.bool ((r_2.1.length : Int) == 1)), []⟩, ⟨.d (.bool ((r_2.1.length : Int) == 1)), []⟩] (by kernel_rfl) ?_
      cases hb_3 : (((r_2.1.length : Int) == 1) : Bool) with
      | true =>
        replace h := ite_t hb_3 h
        refine RunAt.chunk 1 [⟨.d (.sl (List.map Comb.d r_2.1)), []⟩] (by kernel_rfl) ?_
        obtain ⟨z_1, hz_1, h⟩ := bind_s h
        refine RunAt.cut (some 38) (.iaddrS 8) [] none [.d (.sl (List.map Comb.d r_2.1)), .d (.int .i64 0)] (.elt (Comb.d z_1) 0) [] (by kernel_rfl) (by kernel_rfl) (by kernel_rfl) (cut_at hz_1 (fun _ => rfl)) ?_
        refine RunAt.chunk 5 [⟨.elt (Comb.d z_1) 6, []⟩, ⟨.d (.int .i64 z_1.Len), []⟩, ⟨.d (.bool (z_1.Len == 7)), []⟩, ⟨.d (.bool (z_1.Len == 7)), []⟩, ⟨.d (.bool (z_1.Len == 7)), []⟩] (by kernel_rfl) ?_
        cases hb_4 : ((z_1.Len == 7) : Bool) with
        | true =>
          replace h := ite_t hb_4 h
          refine RunAt.chunk 3 [⟨.d (.bool r_3.2.2), []⟩, ⟨.d (.bool r_3.2.2), []⟩, ⟨.d (.bool r_3.2.2), []⟩] (by kernel_rfl) ?_
          cases hb_5 : (r_3.2.2 : Bool) with
          | true =>
            replace h := ite_t hb_5 h
            refine RunAt.chunk 4 [⟨.d (.int .i64 r_3.1), []⟩, ⟨.d (.bool (r_3.1 == 0)), []⟩, ⟨.d (.bool (r_3.1 == 0)), []⟩, ⟨.d (.bool (r_3.1 == 0)), []⟩] (by kernel_rfl) ?_
            cases hb_6 : ((r_3.1 == 0) : Bool) with
            | true =>
              replace h := ite_t hb_6 h
              refine RunAt.chunk 4 [⟨.d (.int .i64 r_3.2.1), []⟩, ⟨.d (.bool (r_3.2.1 == 4)), []⟩, ⟨.d (.bool (r_3.2.1 == 4)), []⟩, ⟨.d (.bool (r_3.2.1 == 4)), []⟩] (by kernel_rfl) ?_
              refine RunAt.done (by kernel_rfl) ?_
              refine kS_nrm ?_
              refine Runs.ret ?_
              obtain rfl := Option.some.inj h
              exact ⟨Out.ret_ne, (by kernel_rfl)⟩
            | false =>
              replace h := ite_f hb_6 h
              refine RunAt.chunk 4 [⟨.tup [], []⟩, ⟨.tup [], []⟩, ⟨.d (.bool false), []⟩, ⟨.d (.bool false), []⟩] (by kernel_rfl) ?_
              refine RunAt.done (by kernel_rfl) ?_
              refine kS_nrm ?_
              refine Runs.ret ?_
              obtain rfl := Option.some.inj h
              exact ⟨Out.ret_ne, (by kernel_rfl)⟩
          | false =>
            replace h := ite_f hb_5 h
            refine RunAt.chunk 8 [⟨.tup [], []⟩, ⟨.tup [], []⟩, ⟨.d (.bool false), []⟩, ⟨.d (.bool false), []⟩, ⟨.tup [], []⟩, ⟨.tup [], []⟩, ⟨.d (.bool false), []⟩, ⟨.d (.bool false), []⟩] (by kernel_rfl) ?_
            refine RunAt.done (by kernel_rfl) ?_
            refine kS_nrm ?_
            refine Runs.ret ?_
            obtain rfl := Option.some.inj h
            exact ⟨Out.ret_ne, (by kernel_rfl)⟩
        | false =>
          replace h := ite_f hb_4 h
          refine RunAt.chunk 11 [⟨.tup [], []⟩, ⟨.d (.bool false), []⟩, ⟨.d (.bool false), []⟩, ⟨.tup [], []⟩, ⟨.tup [], []⟩, ⟨.d (.bool false), []⟩, ⟨.d (.bool false), []⟩, ⟨.tup [], []⟩, ⟨.tup [], []⟩, ⟨.d (.bool false), []⟩, ⟨.d (.bool false), []⟩] (by kernel_rfl) ?_
          refine RunAt.done (by kernel_rfl) ?_
          refine kS_nrm ?_
          refine Runs.ret ?_
          obtain rfl := Option.some.inj h
          exact ⟨Out.ret_ne, (by kernel_rfl)⟩
      | false =>
        replace h := ite_f hb_3 h
        refine RunAt.chunk 18 [⟨.tup [], []⟩, ⟨.tup [], []⟩, ⟨.tup [], []⟩, ⟨.tup [], []⟩, ⟨.tup [], []⟩, ⟨.d (.bool false), []⟩, ⟨.d (.bool false), []⟩, ⟨.tup [], []⟩, ⟨.d (.bool false), []⟩, ⟨.d (.bool false), []⟩, ⟨.tup [], []⟩, ⟨.tup [], []⟩, ⟨.d (.bool false), []⟩, ⟨.d (.bool false), []⟩, ⟨.tup [], []⟩, ⟨.tup [], []⟩, ⟨.d (.bool false), []⟩, ⟨.d (.bool false), []⟩] (by kernel_rfl) ?_
        refine RunAt.done (by kernel_rfl) ?_
        refine kS_nrm ?_
        refine Runs.ret ?_
        obtain rfl := Option.some.inj h
        exact ⟨Out.ret_ne, (by kernel_rfl)⟩
    | false =>
      replace h := ite_f hb_2 h
      refine RunAt.chunk 23 [⟨.tup [], []⟩, ⟨.tup [], []⟩, ⟨.tup [], []⟩, ⟨.d (.bool false), []⟩, ⟨.d (.bool false), []⟩, ⟨.tup [], []⟩, ⟨.tup [], []⟩, ⟨.tup [], []⟩, ⟨.tup [], []⟩, ⟨.tup [], []⟩, ⟨.d (.bool false), []⟩, ⟨.d (.bool false), []⟩, ⟨.tup [], []⟩, ⟨.d (.bool false), []⟩, ⟨.d (.bool false), []⟩, ⟨.tup [], []⟩, ⟨.tup [], []⟩, ⟨.d (.bool false), []⟩, ⟨.d (.bool false), []⟩, ⟨.tup [], []⟩, ⟨.tup [], []⟩, ⟨.d (.bool false), []⟩, ⟨.d (.bool false), []⟩] (by kernel_rfl) ?_
      refine RunAt.done (by kernel_rfl) ?_
      refine kS_nrm ?_
      refine Runs.ret ?_
      obtain rfl := Option.some.inj h
      exact ⟨Out.ret_ne, (by kernel_rfl)⟩
  | false =>
    replace h := ite_f hb_1 h
    refine RunAt.chunk 27 [⟨.tup [], []⟩, ⟨.tup [], []⟩, ⟨.d (.bool false), []⟩, ⟨.d (.bool false), []⟩, ⟨.tup [], []⟩, ⟨.tup [], []⟩, ⟨.tup [], []⟩, ⟨.d (.bool false), []⟩, ⟨.d (.bool false), []⟩, ⟨.tup [], []⟩, ⟨.tup [], []⟩, ⟨.tup [], []⟩, ⟨.tup [], []⟩, ⟨.tup [], []⟩, ⟨.d (.bool false), []⟩, ⟨.d (.bool false), []⟩, ⟨.tup [], []⟩, ⟨.d (.bool false), []⟩, ⟨.d (.bool false), []⟩, ⟨.tup [], []⟩, ⟨.tup [], []⟩, ⟨.d (.bool false), []⟩, ⟨.d (.bool false), []⟩, ⟨.tup [], []⟩, ⟨.tup [], []⟩, ⟨.d (.bool false), []⟩, ⟨.d (.bool false), []⟩] (by kernel_rfl) ?_
    refine RunAt.done (by kernel_rfl) ?_
    refine kS_nrm ?_
    refine Runs.ret ?_
    obtain rfl := Option.some.inj h
    exact ⟨Out.ret_ne, (by kernel_rfl)⟩
theorem hansomlaw40_awake_L  (r : Bool) (h : hansomlaw40_awake = some r) : L 53 [] = some (.d (.bool r), []) := by
  obtain ⟨p, ⟨hne, hf⟩, hr⟩ := hansomlaw40_awake_ok  r h
  obtain ⟨k, hk⟩ := run_of (F := F53) (args := []) (ap := []) (bx0 := updW (fun _ => none) []) rfl rfl (by kernel_rfl) ⟨p, ⟨hne, hf⟩, hr⟩
  exact lim_run (k := k) rfl hk
def hansomlaw40_CombAdds_h8 (b_28 : (List SegDef)) (l0 : (List SegDef)) (names1 : (List Int)) (m5 : (List Comb)) (i7 : Int) (v_28 : Nat) : St := ⟨tab [(0, .d (.sl (List.map SegDef.d l0))), (1, .d (.sl (List.map (D.int .i64) names1))), (5, .d (.sl (List.map Comb.d m5))), (6, .ref [28] v_28 0 (List.map SegDef.d b_28).length 8), (7, .d (.int .i64 i7))], tabB [([28], some (.arr (List.map SegDef.d b_28) v_28 false))]⟩
def hansomlaw40_CombAdds_h25 (d8 : SegDef) (b_28 : (List SegDef)) (l0 : (List SegDef)) (names1 : (List Int)) (m5 : (List Comb)) (i7 : Int) (n9 : Int) (v_28 : Nat) : St := ⟨tab [(0, .d (.sl (List.map SegDef.d l0))), (1, .d (.sl (List.map (D.int .i64) names1))), (5, .d (.sl (List.map Comb.d m5))), (6, .ref [28] v_28 0 (List.map SegDef.d b_28).length 8), (7, .d (.int .i64 i7)), (8, .ptr [8] 0 0), (9, .d (.int .i64 n9))], tabB [([8], some (.cells [.d (.int .i64 d8.Align), .d (.int .i64 d8.Combine), .d (.int .u16 d8.Frame), .d (.int .u8 d8.Offset), .d (.int .i64 d8.Len), .d (.int .i64 d8.Name), .d (.int .i64 d8.Class), .d (.int .i64 d8.Overlay)] 0)), ([28], some (.arr (List.map SegDef.d b_28) v_28 false))]⟩
def hansomlaw40_CombAdds_h33 (d8 : SegDef) (b_28 : (List SegDef)) (l0 : (List SegDef)) (names1 : (List Int)) (m5 : (List Comb)) (i7 : Int) (name10 : (List UInt8)) (class11 : (List UInt8)) (at12 : Int) (k13 : Int) (v_28 : Nat) : St := ⟨tab [(0, .d (.sl (List.map SegDef.d l0))), (1, .d (.sl (List.map (D.int .i64) names1))), (5, .d (.sl (List.map Comb.d m5))), (6, .ref [28] v_28 0 (List.map SegDef.d b_28).length 8), (7, .d (.int .i64 i7)), (8, .ptr [8] 0 0), (10, .d (.str name10)), (11, .d (.str class11)), (12, .d (.int .i64 at12)), (13, .d (.int .i64 k13))], tabB [([8], some (.cells [.d (.int .i64 d8.Align), .d (.int .i64 d8.Combine), .d (.int .u16 d8.Frame), .d (.int .u8 d8.Offset), .d (.int .i64 d8.Len), .d (.int .i64 d8.Name), .d (.int .i64 d8.Class), .d (.int .i64 d8.Overlay)] 0)), ([28], some (.arr (List.map SegDef.d b_28) v_28 false))]⟩
def hansomlaw40_CombAdds_h48 (d8 : SegDef) (b_28 : (List SegDef)) (l0 : (List SegDef)) (names1 : (List Int)) (m5 : (List Comb)) (i7 : Int) (name10 : (List UInt8)) (class11 : (List UInt8)) (at12 : Int) (v_28 : Nat) : St := ⟨tab [(0, .d (.sl (List.map SegDef.d l0))), (1, .d (.sl (List.map (D.int .i64) names1))), (5, .d (.sl (List.map Comb.d m5))), (6, .ref [28] v_28 0 (List.map SegDef.d b_28).length 8), (7, .d (.int .i64 i7)), (8, .ptr [8] 0 0), (10, .d (.str name10)), (11, .d (.str class11)), (12, .d (.int .i64 at12))], tabB [([8], some (.cells [.d (.int .i64 d8.Align), .d (.int .i64 d8.Combine), .d (.int .u16 d8.Frame), .d (.int .u8 d8.Offset), .d (.int .i64 d8.Len), .d (.int .i64 d8.Name), .d (.int .i64 d8.Class), .d (.int .i64 d8.Overlay)] 0)), ([28], some (.arr (List.map SegDef.d b_28) v_28 false))]⟩
def hansomlaw40_CombAdds_h56 (d8 : SegDef) (b_28 : (List SegDef)) (l0 : (List SegDef)) (names1 : (List Int)) (m5 : (List Comb)) (i7 : Int) (name10 : (List UInt8)) (class11 : (List UInt8)) (at12 : Int) (off14 : Int) (v_28 : Nat) : St := ⟨tab [(0, .d (.sl (List.map SegDef.d l0))), (1, .d (.sl (List.map (D.int .i64) names1))), (5, .d (.sl (List.map Comb.d m5))), (6, .ref [28] v_28 0 (List.map SegDef.d b_28).length 8), (7, .d (.int .i64 i7)), (8, .ptr [8] 0 0), (10, .d (.str name10)), (11, .d (.str class11)), (12, .d (.int .i64 at12)), (14, .d (.int .i64 off14))], tabB [([8], some (.cells [.d (.int .i64 d8.Align), .d (.int .i64 d8.Combine), .d (.int .u16 d8.Frame), .d (.int .u8 d8.Offset), .d (.int .i64 d8.Len), .d (.int .i64 d8.Name), .d (.int .i64 d8.Class), .d (.int .i64 d8.Overlay)] 0)), ([28], some (.arr (List.map SegDef.d b_28) v_28 false))]⟩
def hansomlaw40_CombAdds_h72 (d8 : SegDef) (b_28 : (List SegDef)) (l0 : (List SegDef)) (names1 : (List Int)) (m5 : (List Comb)) (i7 : Int) (name10 : (List UInt8)) (class11 : (List UInt8)) (at12 : Int) (off14 : Int) (next15 : (List Comb)) (e16 : Int) (v_28 : Nat) : St := ⟨tab [(0, .d (.sl (List.map SegDef.d l0))), (1, .d (.sl (List.map (D.int .i64) names1))), (5, .d (.sl (List.map Comb.d m5))), (6, .ref [28] v_28 0 (List.map SegDef.d b_28).length 8), (7, .d (.int .i64 i7)), (8, .ptr [8] 0 0), (10, .d (.str name10)), (11, .d (.str class11)), (12, .d (.int .i64 at12)), (14, .d (.int .i64 off14)), (15, .d (.sl (List.map Comb.d next15))), (16, .d (.int .i64 e16))], tabB [([8], some (.cells [.d (.int .i64 d8.Align), .d (.int .i64 d8.Combine), .d (.int .u16 d8.Frame), .d (.int .u8 d8.Offset), .d (.int .i64 d8.Len), .d (.int .i64 d8.Name), .d (.int .i64 d8.Class), .d (.int .i64 d8.Overlay)] 0)), ([28], some (.arr (List.map SegDef.d b_28) v_28 false))]⟩
def hansomlaw40_CombAdds_h80 (d8 : SegDef) (b_28 : (List SegDef)) (l0 : (List SegDef)) (names1 : (List Int)) (m5 : (List Comb)) (i7 : Int) (name10 : (List UInt8)) (class11 : (List UInt8)) (at12 : Int) (off14 : Int) (next15 : (List Comb)) (v_28 : Nat) : St := ⟨tab [(0, .d (.sl (List.map SegDef.d l0))), (1, .d (.sl (List.map (D.int .i64) names1))), (5, .d (.sl (List.map Comb.d m5))), (6, .ref [28] v_28 0 (List.map SegDef.d b_28).length 8), (7, .d (.int .i64 i7)), (8, .ptr [8] 0 0), (10, .d (.str name10)), (11, .d (.str class11)), (12, .d (.int .i64 at12)), (14, .d (.int .i64 off14)), (15, .d (.sl (List.map Comb.d next15)))], tabB [([8], some (.cells [.d (.int .i64 d8.Align), .d (.int .i64 d8.Combine), .d (.int .u16 d8.Frame), .d (.int .u8 d8.Offset), .d (.int .i64 d8.Len), .d (.int .i64 d8.Name), .d (.int .i64 d8.Class), .d (.int .i64 d8.Overlay)] 0)), ([28], some (.arr (List.map SegDef.d b_28) v_28 false))]⟩
def hansomlaw40_CombAdds_h88 (d8 : SegDef) (b_28 : (List SegDef)) (l0 : (List SegDef)) (names1 : (List Int)) (m5 : (List Comb)) (i7 : Int) (name10 : (List UInt8)) (class11 : (List UInt8)) (at12 : Int) (off14 : Int) (next15 : (List Comb)) (k17 : Int) (v_28 : Nat) : St := ⟨tab [(0, .d (.sl (List.map SegDef.d l0))), (1, .d (.sl (List.map (D.int .i64) names1))), (5, .d (.sl (List.map Comb.d m5))), (6, .ref [28] v_28 0 (List.map SegDef.d b_28).length 8), (7, .d (.int .i64 i7)), (8, .ptr [8] 0 0), (10, .d (.str name10)), (11, .d (.str class11)), (12, .d (.int .i64 at12)), (14, .d (.int .i64 off14)), (15, .d (.sl (List.map Comb.d next15))), (17, .d (.int .i64 k17))], tabB [([8], some (.cells [.d (.int .i64 d8.Align), .d (.int .i64 d8.Combine), .d (.int .u16 d8.Frame), .d (.int .u8 d8.Offset), .d (.int .i64 d8.Len), .d (.int .i64 d8.Name), .d (.int .i64 d8.Class), .d (.int .i64 d8.Overlay)] 0)), ([28], some (.arr (List.map SegDef.d b_28) v_28 false))]⟩
def hansomlaw40_CombAdds_h112 (d8 : SegDef) (c18 : Comb) (b_28 : (List SegDef)) (l0 : (List SegDef)) (names1 : (List Int)) (i7 : Int) (name10 : (List UInt8)) (class11 : (List UInt8)) (off14 : Int) (next15 : (List Comb)) (k17 : Int) (was19 : Int) (align20 : Int) (v_28 : Nat) : St := ⟨tab [(0, .d (.sl (List.map SegDef.d l0))), (1, .d (.sl (List.map (D.int .i64) names1))), (6, .ref [28] v_28 0 (List.map SegDef.d b_28).length 8), (7, .d (.int .i64 i7)), (8, .ptr [8] 0 0), (10, .d (.str name10)), (11, .d (.str class11)), (14, .d (.int .i64 off14)), (15, .d (.sl (List.map Comb.d next15))), (17, .d (.int .i64 k17)), (18, .ptr [18] 0 0), (19, .d (.int .i64 was19)), (20, .d (.int .i64 align20))], tabB [([8], some (.cells [.d (.int .i64 d8.Align), .d (.int .i64 d8.Combine), .d (.int .u16 d8.Frame), .d (.int .u8 d8.Offset), .d (.int .i64 d8.Len), .d (.int .i64 d8.Name), .d (.int .i64 d8.Class), .d (.int .i64 d8.Overlay)] 0)), ([18], some (.cells [.d (.str c18.Name), .d (.str c18.Class), .d (.int .i64 c18.Align), .d (.int .i64 c18.Combine), .d (.int .u16 c18.Frame), .d (.int .u8 c18.Offset), .d (.int .i64 c18.Len), .d (.sl (List.map Chunk.d c18.Chunks))] 0)), ([28], some (.arr (List.map SegDef.d b_28) v_28 false))]⟩
def hansomlaw40_CombAdds_h124 (b_28 : (List SegDef)) (m5 : (List Comb)) (v_28 : Nat) : St := ⟨tab [(5, .d (.sl (List.map Comb.d m5))), (6, .ref [28] v_28 0 (List.map SegDef.d b_28).length 8)], tabB [([28], some (.arr (List.map SegDef.d b_28) v_28 false))]⟩
def hansomlaw40_CombAdds_Q (l_ : (List SegDef)) (names_ : (List Int)) (r : Bool) (p : Out × St) : Prop := (∀ i, p.1 ≠ .exit i) ∧ finF F13 [.d (.sl (List.map SegDef.d l_)), .d (.sl (List.map (D.int .i64) names_))] p.2 = some (.d (.bool r), [.d (.sl (List.map SegDef.d l_)), .d (.sl (List.map (D.int .i64) names_))])
def hansomlaw40_CombAdds_P33 (l_ : (List SegDef)) (names_ : (List Int)) (d8 : SegDef) (b_28 : (List SegDef)) (l0 : (List SegDef)) (names1 : (List Int)) (m5 : (List Comb)) (i7 : Int) (name10 : (List UInt8)) (class11 : (List UInt8)) (e : Int) (p : Out × St) : Prop := p.1 = .exit 2 ∧ ∃ g : Nat, Canon [] [0, 1, 5, 6, 7, 8, 10, 11, 12] [[8], [28]] p.2 (hansomlaw40_CombAdds_h48 d8 b_28 l0 names1 m5 i7 name10 class11 e g)
def hansomlaw40_CombAdds_P8 (l_ : (List SegDef)) (names_ : (List Int)) (l0 : (List SegDef)) (names1 : (List Int)) (e : (Bool ⊕ ((List SegDef) × (List Comb)))) (p : Out × St) : Prop := match e with
  | .inl x => p.1 = .ret ∧ finF F13 [.d (.sl (List.map SegDef.d l_)), .d (.sl (List.map (D.int .i64) names_))] p.2 = some (.d (.bool x), [.d (.sl (List.map SegDef.d l_)), .d (.sl (List.map (D.int .i64) names_))])
  | .inr x => p.1 = .exit 0 ∧ ∃ g : Nat, Canon [] [5, 6] [[28]] p.2 (hansomlaw40_CombAdds_h124 x.1 x.2 g)
theorem hansomlaw40_CombAdds_l33_ok (l_ : (List SegDef)) (names_ : (List Int)) (d8 : SegDef) (b_28 : (List SegDef)) (l0 : (List SegDef)) (names1 : (List Int)) (m5 : (List Comb)) (i7 : Int) (name10 : (List UInt8)) (class11 : (List UInt8)) (at12 : Int) (k13 : Int) (v_28 : Nat) (r : (Lp (Int × Int) Int)) (h : hansomlaw40_CombAdds_l33 d8 b_28 l0 names1 m5 i7 name10 class11 at12 k13 = some r) : Runs L F13l33 (hansomlaw40_CombAdds_h33 d8 b_28 l0 names1 m5 i7 name10 class11 at12 k13 v_28) (LQ [] [0, 1, 5, 6, 7, 8, 10, 11, 12, 13] [[8], [28]] (fun (x : (Int × Int)) (g : Nat) => hansomlaw40_CombAdds_h33 d8 b_28 l0 names1 m5 i7 name10 class11 x.1 x.2 g) (hansomlaw40_CombAdds_P33 l_ names_ d8 b_28 l0 names1 m5 i7 name10 class11) r) := by
  unfold hansomlaw40_CombAdds_l33 at h
  refine Runs.seq ?_
  refine Runs.seq ?_
  refine Runs.ops ?_
  refine RunAt.chunk 2 [⟨.d (.int .i64 k13), []⟩, ⟨.d (.sl (List.map Comb.d m5)), []⟩] (by kernel_rfl) ?_
  refine RunAt.cut (some 65) .lenL [] none [.d (.sl (List.map Comb.d m5))] (.d (.int .i64 (m5.length : Int))) [] (by kernel_rfl) (by kernel_rfl) (by kernel_rfl) (cut_len _) ?_
  refine RunAt.chunk 1 [⟨.d (.bool (decide (k13 < (m5.length : Int)))), []⟩] (by kernel_rfl) ?_
  refine RunAt.done (by kernel_rfl) ?_
  refine kS_nrm ?_
  cases hb_4 : ((decide (k13 < (m5.length : Int))) : Bool) with
  | true =>
    replace h := ite_t hb_4 h
    refine Runs.cond_t (by kernel_rfl) ?_
    refine Runs.skip ?_
    refine kS_nrm ?_
    refine Runs.seq ?_
    refine Runs.block ?_
    refine Runs.seq ?_
    refine Runs.ops ?_
    refine RunAt.chunk 3 [⟨.d (.int .i64 at12), []⟩, ⟨.d (.bool (decide (at12 < 0))), []⟩, ⟨.d (.bool (decide (at12 < 0))), []⟩] (by kernel_rfl) ?_
    cases hb_5 : ((decide (at12 < 0)) : Bool) with
    | true =>
      replace h := ite_t hb_5 h
      refine RunAt.chunk 5 [⟨.ptr [8] 0 0, []⟩, ⟨.d (.int .i64 d8.Align), []⟩, ⟨.d (.bool (d8.Align != 0)), []⟩, ⟨.d (.bool (d8.Align != 0)), []⟩, ⟨.d (.bool (d8.Align != 0)), []⟩] (by kernel_rfl) ?_
      cases hb_6 : ((d8.Align != 0) : Bool) with
      | true =>
        replace h := ite_t hb_6 h
        refine RunAt.chunk 2 [⟨.d (.sl (List.map Comb.d m5)), []⟩, ⟨.d (.int .i64 k13), []⟩] (by kernel_rfl) ?_
        obtain ⟨z_5, hz_5, h⟩ := bind_s h
        refine RunAt.cut (some 79) (.iaddrS 8) [] none [.d (.sl (List.map Comb.d m5)), .d (.int .i64 k13)] (.elt (Comb.d z_5) 0) [] (by kernel_rfl) (by kernel_rfl) (by kernel_rfl) (cut_at hz_5 (fun _ => rfl)) ?_
        refine RunAt.chunk 5 [⟨.elt (Comb.d z_5) 2, []⟩, ⟨.d (.int .i64 z_5.Align), []⟩, ⟨.d (.bool (z_5.Align != 0)), []⟩, ⟨.d (.bool (z_5.Align != 0)), []⟩, ⟨.d (.bool (z_5.Align != 0)), []⟩] (by kernel_rfl) ?_
        cases hb_7 : ((z_5.Align != 0) : Bool) with
        | true =>
          replace h := ite_t hb_7 h
          refine RunAt.chunk 5 [⟨.ptr [8] 0 1, []⟩, ⟨.d (.int .i64 d8.Combine), []⟩, ⟨.d (.bool (d8.Combine != 0)), []⟩, ⟨.d (.bool (d8.Combine != 0)), []⟩, ⟨.d (.bool (d8.Combine != 0)), []⟩] (by kernel_rfl) ?_
          cases hb_8 : ((d8.Combine != 0) : Bool) with
          | true =>
            replace h := ite_t hb_8 h
            refine RunAt.chunk 2 [⟨.d (.sl (List.map Comb.d m5)), []⟩, ⟨.d (.int .i64 k13), []⟩] (by kernel_rfl) ?_
            obtain ⟨z_6, hz_6, h⟩ := bind_s h
            refine RunAt.cut (some 92) (.iaddrS 8) [] none [.d (.sl (List.map Comb.d m5)), .d (.int .i64 k13)] (.elt (Comb.d z_6) 0) [] (by kernel_rfl) (by kernel_rfl) (by kernel_rfl) (cut_at hz_6 (fun _ => rfl)) ?_
            refine RunAt.chunk 7 [⟨.elt (Comb.d z_6) 3, []⟩, ⟨.d (.int .i64 z_6.Combine), []⟩, ⟨.ptr [8] 0 1, []⟩, ⟨.d (.int .i64 d8.Combine), []⟩, ⟨.d (.bool (z_6.Combine == d8.Combine)), []⟩, ⟨.d (.bool (z_6.Combine == d8.Combine)), []⟩, ⟨.d (.bool (z_6.Combine == d8.Combine)), []⟩] (by kernel_rfl) ?_
            cases hb_9 : ((z_6.Combine == d8.Combine) : Bool) with
            | true =>
              replace h := ite_t hb_9 h
              refine RunAt.chunk 2 [⟨.d (.sl (List.map Comb.d m5)), []⟩, ⟨.d (.int .i64 k13), []⟩] (by kernel_rfl) ?_
              obtain ⟨z_7, hz_7, h⟩ := bind_s h
              refine RunAt.cut (some 102) (.iaddrS 8) [] none [.d (.sl (List.map Comb.d m5)), .d (.int .i64 k13)] (.elt (Comb.d z_7) 0) [] (by kernel_rfl) (by kernel_rfl) (by kernel_rfl) (cut_at hz_7 (fun _ => rfl)) ?_
              refine RunAt.chunk 6 [⟨.elt (Comb.d z_7) 0, []⟩, ⟨.d (.str z_7.Name), []⟩, ⟨.d (.str name10), []⟩, ⟨.d (.bool (z_7.Name == name10)), []⟩, ⟨.d (.bool (z_7.Name == name10)), []⟩, ⟨.d (.bool (z_7.Name == name10)), []⟩] (by kernel_rfl) ?_
              cases hb_10 : ((z_7.Name == name10) : Bool) with
              | true =>
                replace h := ite_t hb_10 h
                refine RunAt.chunk 2 [⟨.d (.sl (List.map Comb.d m5)), []⟩, ⟨.d (.int .i64 k13), []⟩] (by kernel_rfl) ?_
                obtain ⟨z_8, hz_8, h⟩ := bind_s h
                refine RunAt.cut (some 111) (.iaddrS 8) [] none [.d (.sl (List.map Comb.d m5)), .d (.int .i64 k13)] (.elt (Comb.d z_8) 0) [] (by kernel_rfl) (by kernel_rfl) (by kernel_rfl) (cut_at hz_8 (fun _ => rfl)) ?_
                refine RunAt.chunk 5 [⟨.elt (Comb.d z_8) 1, []⟩, ⟨.d (.str z_8.Class), []⟩, ⟨.d (.str class11), []⟩, ⟨.d (.bool (z_8.Class == class11)), []⟩, ⟨.d (.bool (z_8.Class == class11)), []⟩] (by kernel_rfl) ?_
                refine RunAt.done (by kernel_rfl) ?_
                refine kS_nrm ?_
                cases hb_11 : ((z_8.Class == class11) : Bool) with
                | true =>
                  replace h := ite_t hb_11 h
                  refine Runs.cond_t (by kernel_rfl) ?_
                  refine Runs.ops ?_
                  refine RunAt.chunk 2 [⟨.d (.int .i64 k13), []⟩, ⟨.d (.int .i64 k13), []⟩] (by kernel_rfl) ?_
                  refine RunAt.done (by kernel_rfl) ?_
                  refine kB_nrm ?_
                  refine kS_nrm ?_
                  refine Runs.ops ?_
                  refine RunAt.chunk 3 [⟨.d (.int .i64 k13), []⟩, ⟨.d (.int .i64 (IntKind.wrap .i64 (k13 + 1))), []⟩, ⟨.d (.int .i64 (IntKind.wrap .i64 (k13 + 1))), []⟩] (by kernel_rfl) ?_
                  refine RunAt.done (by kernel_rfl) ?_
                  obtain rfl := Option.some.inj h
                  exact ⟨rfl, v_28, (Canon.nil (by kernel_rfl))⟩
                | false =>
                  replace h := ite_f hb_11 h
                  refine Runs.cond_f (by kernel_rfl) ?_
                  refine Runs.skip ?_
                  refine kB_nrm ?_
                  refine kS_nrm ?_
                  refine Runs.ops ?_
                  refine RunAt.chunk 3 [⟨.d (.int .i64 k13), []⟩, ⟨.d (.int .i64 (IntKind.wrap .i64 (k13 + 1))), []⟩, ⟨.d (.int .i64 (IntKind.wrap .i64 (k13 + 1))), []⟩] (by kernel_rfl) ?_
                  refine RunAt.done (by kernel_rfl) ?_
                  obtain rfl := Option.some.inj h
                  exact ⟨rfl, v_28, (Canon.nil (by kernel_rfl))⟩
              | false =>
                replace h := ite_f hb_10 h
                refine RunAt.chunk 8 [⟨.tup [], []⟩, ⟨.tup [], []⟩, ⟨.tup [], []⟩, ⟨.tup [], []⟩, ⟨.tup [], []⟩, ⟨.tup [], []⟩, ⟨.tup [], []⟩, ⟨.d (.bool false), []⟩] (by kernel_rfl) ?_
                refine RunAt.done (by kernel_rfl) ?_
                refine kS_nrm ?_
                refine Runs.cond_f (by kernel_rfl) ?_
                refine Runs.skip ?_
                refine kB_nrm ?_
                refine kS_nrm ?_
                refine Runs.ops ?_
                refine RunAt.chunk 3 [⟨.d (.int .i64 k13), []⟩, ⟨.d (.int .i64 (IntKind.wrap .i64 (k13 + 1))), []⟩, ⟨.d (.int .i64 (IntKind.wrap .i64 (k13 + 1))), []⟩] (by kernel_rfl) ?_
                refine RunAt.done (by kernel_rfl) ?_
                obtain rfl := Option.some.inj h
                exact ⟨rfl, v_28, (Canon.nil (by kernel_rfl))⟩
            | false =>
              replace h := ite_f hb_9 h
              refine RunAt.chunk 17 [⟨.tup [], []⟩, ⟨.tup [], []⟩, ⟨.tup [], []⟩, ⟨.tup [], []⟩, ⟨.tup [], []⟩, ⟨.tup [], []⟩, ⟨.tup [], []⟩, ⟨.d (.bool false), []⟩, ⟨.d (.bool false), []⟩, ⟨.tup [], []⟩, ⟨.tup [], []⟩, ⟨.tup [], []⟩, ⟨.tup [], []⟩, ⟨.tup [], []⟩, ⟨.tup [], []⟩, ⟨.tup [], []⟩, ⟨.d (.bool false), []⟩] (by kernel_rfl) ?_
              refine RunAt.done (by kernel_rfl) ?_
              refine kS_nrm ?_
              refine Runs.cond_f (by kernel_rfl) ?_
              refine Runs.skip ?_
              refine kB_nrm ?_
              refine kS_nrm ?_
              refine Runs.ops ?_
              refine RunAt.chunk 3 [⟨.d (.int .i64 k13), []⟩, ⟨.d (.int .i64 (IntKind.wrap .i64 (k13 + 1))), []⟩, ⟨.d (.int .i64 (IntKind.wrap .i64 (k13 + 1))), []⟩] (by kernel_rfl) ?_
              refine RunAt.done (by kernel_rfl) ?_
              obtain rfl := Option.some.inj h
              exact ⟨rfl, v_28, (Canon.nil (by kernel_rfl))⟩
          | false =>
            replace h := ite_f hb_8 h
            refine RunAt.chunk 27 [⟨.tup [], []⟩, ⟨.tup [], []⟩, ⟨.tup [], []⟩, ⟨.tup [], []⟩, ⟨.tup [], []⟩, ⟨.tup [], []⟩, ⟨.tup [], []⟩, ⟨.tup [], []⟩, ⟨.d (.bool false), []⟩, ⟨.d (.bool false), []⟩, ⟨.tup [], []⟩, ⟨.tup [], []⟩, ⟨.tup [], []⟩, ⟨.tup [], []⟩, ⟨.tup [], []⟩, ⟨.tup [], []⟩, ⟨.tup [], []⟩, ⟨.d (.bool false), []⟩, ⟨.d (.bool false), []⟩, ⟨.tup [], []⟩, ⟨.tup [], []⟩, ⟨.tup [], []⟩, ⟨.tup [], []⟩, ⟨.tup [], []⟩, ⟨.tup [], []⟩, ⟨.tup [], []⟩, ⟨.d (.bool false), []⟩] (by kernel_rfl) ?_
            refine RunAt.done (by kernel_rfl) ?_
            refine kS_nrm ?_
            refine Runs.cond_f (by kernel_rfl) ?_
            refine Runs.skip ?_
            refine kB_nrm ?_
            refine kS_nrm ?_
            refine Runs.ops ?_
            refine RunAt.chunk 3 [⟨.d (.int .i64 k13), []⟩, ⟨.d (.int .i64 (IntKind.wrap .i64 (k13 + 1))), []⟩, ⟨.d (.int .i64 (IntKind.wrap .i64 (k13 + 1))), []⟩] (by kernel_rfl) ?_
            refine RunAt.done (by kernel_rfl) ?_
            obtain rfl := Option.some.inj h
            exact ⟨rfl, v_28, (Canon.nil (by kernel_rfl))⟩
        | false =>
          replace h := ite_f hb_7 h
          refine RunAt.chunk 32 [⟨.tup [], []⟩, ⟨.tup [], []⟩, ⟨.tup [], []⟩, ⟨.d (.bool false), []⟩, ⟨.d (.bool false), []⟩, ⟨.tup [], []⟩, ⟨.tup [], []⟩, ⟨.tup [], []⟩, ⟨.tup [], []⟩, ⟨.tup [], []⟩, ⟨.tup [], []⟩, ⟨.tup [], []⟩, ⟨.tup [], []⟩, ⟨.d (.bool false), []⟩, ⟨.d (.bool false), []⟩, ⟨.tup [], []⟩, ⟨.tup [], []⟩, ⟨.tup [], []⟩, ⟨.tup [], []⟩, ⟨.tup [], []⟩, ⟨.tup [], []⟩, ⟨.tup [], []⟩, ⟨.d (.bool false), []⟩, ⟨.d (.bool false), []⟩, ⟨.tup [], []⟩, ⟨.tup [], []⟩, ⟨.tup [], []⟩, ⟨.tup [], []⟩, ⟨.tup [], []⟩, ⟨.tup [], []⟩, ⟨.tup [], []⟩, ⟨.d (.bool false), []⟩] (by kernel_rfl) ?_
          refine RunAt.done (by kernel_rfl) ?_
          refine kS_nrm ?_
          refine Runs.cond_f (by kernel_rfl) ?_
          refine Runs.skip ?_
          refine kB_nrm ?_
          refine kS_nrm ?_
          refine Runs.ops ?_
          refine RunAt.chunk 3 [⟨.d (.int .i64 k13), []⟩, ⟨.d (.int .i64 (IntKind.wrap .i64 (k13 + 1))), []⟩, ⟨.d (.int .i64 (IntKind.wrap .i64 (k13 + 1))), []⟩] (by kernel_rfl) ?_
          refine RunAt.done (by kernel_rfl) ?_
          obtain rfl := Option.some.inj h
          exact ⟨rfl, v_28, (Canon.nil (by kernel_rfl))⟩
      | false =>
        replace h := ite_f hb_6 h
        refine RunAt.chunk 40 [⟨.tup [], []⟩, ⟨.tup [], []⟩, ⟨.tup [], []⟩, ⟨.tup [], []⟩, ⟨.tup [], []⟩, ⟨.tup [], []⟩, ⟨.d (.bool false), []⟩, ⟨.d (.bool false), []⟩, ⟨.tup [], []⟩, ⟨.tup [], []⟩, ⟨.tup [], []⟩, ⟨.d (.bool false), []⟩, ⟨.d (.bool false), []⟩, ⟨.tup [], []⟩, ⟨.tup [], []⟩, ⟨.tup [], []⟩, ⟨.tup [], []⟩, ⟨.tup [], []⟩, ⟨.tup [], []⟩, ⟨.tup [], []⟩, ⟨.tup [], []⟩, ⟨.d (.bool false), []⟩, ⟨.d (.bool false), []⟩, ⟨.tup [], []⟩, ⟨.tup [], []⟩, ⟨.tup [], []⟩, ⟨.tup [], []⟩, ⟨.tup [], []⟩, ⟨.tup [], []⟩, ⟨.tup [], []⟩, ⟨.d (.bool false), []⟩, ⟨.d (.bool false), []⟩, ⟨.tup [], []⟩, ⟨.tup [], []⟩, ⟨.tup [], []⟩, ⟨.tup [], []⟩, ⟨.tup [], []⟩, ⟨.tup [], []⟩, ⟨.tup [], []⟩, ⟨.d (.bool false), []⟩] (by kernel_rfl) ?_
        refine RunAt.done (by kernel_rfl) ?_
        refine kS_nrm ?_
        refine Runs.cond_f (by kernel_rfl) ?_
        refine Runs.skip ?_
        refine kB_nrm ?_
        refine kS_nrm ?_
        refine Runs.ops ?_
        refine RunAt.chunk 3 [⟨.d (.int .i64 k13), []⟩, ⟨.d (.int .i64 (IntKind.wrap .i64 (k13 + 1))), []⟩, ⟨.d (.int .i64 (IntKind.wrap .i64 (k13 + 1))), []⟩] (by kernel_rfl) ?_
        refine RunAt.done (by kernel_rfl) ?_
        obtain rfl := Option.some.inj h
        exact ⟨rfl, v_28, (Canon.nil (by kernel_rfl))⟩
    | false =>
      replace h := ite_f hb_5 h
      refine RunAt.chunk 45 [⟨.tup [], []⟩, ⟨.tup [], []⟩, ⟨.tup [], []⟩, ⟨.d (.bool false), []⟩, ⟨.d (.bool false), []⟩, ⟨.tup [], []⟩, ⟨.tup [], []⟩, ⟨.tup [], []⟩, ⟨.tup [], []⟩, ⟨.tup [], []⟩, ⟨.tup [], []⟩, ⟨.d (.bool false), []⟩, ⟨.d (.bool false), []⟩, ⟨.tup [], []⟩, ⟨.tup [], []⟩, ⟨.tup [], []⟩, ⟨.d (.bool false), []⟩, ⟨.d (.bool false), []⟩, ⟨.tup [], []⟩, ⟨.tup [], []⟩, ⟨.tup [], []⟩, ⟨.tup [], []⟩, ⟨.tup [], []⟩, ⟨.tup [], []⟩, ⟨.tup [], []⟩, ⟨.tup [], []⟩, ⟨.d (.bool false), []⟩, ⟨.d (.bool false), []⟩, ⟨.tup [], []⟩, ⟨.tup [], []⟩, ⟨.tup [], []⟩, ⟨.tup [], []⟩, ⟨.tup [], []⟩, ⟨.tup [], []⟩, ⟨.tup [], []⟩, ⟨.d (.bool false), []⟩, ⟨.d (.bool false), []⟩, ⟨.tup [], []⟩, ⟨.tup [], []⟩, ⟨.tup [], []⟩, ⟨.tup [], []⟩, ⟨.tup [], []⟩, ⟨.tup [], []⟩, ⟨.tup [], []⟩, ⟨.d (.bool false), []⟩] (by kernel_rfl) ?_
      refine RunAt.done (by kernel_rfl) ?_
      refine kS_nrm ?_
      refine Runs.cond_f (by kernel_rfl) ?_
      refine Runs.skip ?_
      refine kB_nrm ?_
      refine kS_nrm ?_
      refine Runs.ops ?_
      refine RunAt.chunk 3 [⟨.d (.int .i64 k13), []⟩, ⟨.d (.int .i64 (IntKind.wrap .i64 (k13 + 1))), []⟩, ⟨.d (.int .i64 (IntKind.wrap .i64 (k13 + 1))), []⟩] (by kernel_rfl) ?_
      refine RunAt.done (by kernel_rfl) ?_
      obtain rfl := Option.some.inj h
      exact ⟨rfl, v_28, (Canon.nil (by kernel_rfl))⟩
  | false =>
    replace h := ite_f hb_4 h
    refine Runs.cond_f (by kernel_rfl) ?_
    refine Runs.exit ?_
    refine kS_exit ?_
    obtain rfl := Option.some.inj h
    exact ⟨nofun, rfl, v_28, (Canon.nil (by kernel_rfl))⟩
theorem hansomlaw40_CombAdds_j112_ok (l_ : (List SegDef)) (names_ : (List Int)) (d8 : SegDef) (c18 : Comb) (b_28 : (List SegDef)) (l0 : (List SegDef)) (names1 : (List Int)) (i7 : Int) (name10 : (List UInt8)) (class11 : (List UInt8)) (off14 : Int) (next15 : (List Comb)) (k17 : Int) (was19 : Int) (align20 : Int) (v_28 : Nat) (r : (Lp ((List SegDef) × (List Comb) × Int) (Bool ⊕ ((List SegDef) × (List Comb))))) (h : hansomlaw40_CombAdds_j112 d8 c18 b_28 l0 names1 i7 name10 class11 off14 next15 k17 was19 align20 = some r) : Runs L F13b112 (hansomlaw40_CombAdds_h112 d8 c18 b_28 l0 names1 i7 name10 class11 off14 next15 k17 was19 align20 v_28) (kB 1 (kS L F13c123 (LQ [.frz 5] [0, 1, 5, 6, 7] [[28]] (fun (x : ((List SegDef) × (List Comb) × Int)) (g : Nat) => hansomlaw40_CombAdds_h8 x.1 l0 names1 x.2.1 x.2.2 g) (hansomlaw40_CombAdds_P8 l_ names_ l0 names1) r))) := by
  unfold hansomlaw40_CombAdds_j112 at h
  refine Runs.seq ?_
  refine Runs.ops ?_
  refine RunAt.chunk 3 [⟨.d (.sl (List.map Comb.d next15)), []⟩, ⟨.d (.int .i64 i7), []⟩, ⟨.d (.int .i64 (IntKind.wrap .i64 (i7 + 1))), []⟩] (by kernel_rfl) ?_
  obtain ⟨r_7, hr_7, h⟩ := bind_s h
  have hc_7 := comb_Find_L next15 7 (IntKind.wrap .i64 (i7 + 1)) r_7 hr_7
  refine RunAt.cut (some 226) (.callf 52) [] none [.d (.sl (List.map Comb.d next15)), .d (.int .i64 7), .d (.int .i64 (IntKind.wrap .i64 (i7 + 1)))] (.tup [.d (.int .i64 r_7.1), .d (.int .i64 r_7.2.1), .d (.bool r_7.2.2)]) [] (by kernel_rfl) (by kernel_rfl) (by kernel_rfl) (cut_call (call_of (ws := []) (us := []) (by kernel_rfl) (by kernel_rfl) hc_7 (by kernel_rfl) (by kernel_rfl))) ?_
  refine RunAt.chunk 7 [⟨.tup [.d (.int .i64 r_7.1), .d (.int .i64 r_7.2.1), .d (.bool r_7.2.2)], []⟩, ⟨.d (.int .i64 r_7.1), []⟩, ⟨.d (.int .i64 r_7.2.1), []⟩, ⟨.d (.bool r_7.2.2), []⟩, ⟨.d (.int .i64 r_7.1), []⟩, ⟨.d (.int .i64 r_7.2.1), []⟩, ⟨.d (.bool r_7.2.2), []⟩] (by kernel_rfl) ?_
  refine RunAt.done (by kernel_rfl) ?_
  refine kS_nrm ?_
  refine Runs.seq ?_
  refine Runs.seq ?_
  refine Runs.ops ?_
  refine RunAt.chunk 5 [⟨.ptr [18] 0 0, []⟩, ⟨.d (.str c18.Name), []⟩, ⟨.d (.str name10), []⟩, ⟨.d (.bool (c18.Name != name10)), []⟩, ⟨.d (.bool (c18.Name != name10)), []⟩] (by kernel_rfl) ?_
  cases hb_19 : ((c18.Name != name10) : Bool) with
  | true =>
    replace h := ite_t hb_19 h
    refine RunAt.chunk 59 [⟨.tup [], []⟩, ⟨.tup [], []⟩, ⟨.tup [], []⟩, ⟨.tup [], []⟩, ⟨.d (.bool true), []⟩, ⟨.d (.bool true), []⟩, ⟨.tup [], []⟩, ⟨.tup [], []⟩, ⟨.tup [], []⟩, ⟨.tup [], []⟩, ⟨.tup [], []⟩, ⟨.d (.bool true), []⟩, ⟨.d (.bool true), []⟩, ⟨.tup [], []⟩, ⟨.tup [], []⟩, ⟨.tup [], []⟩, ⟨.tup [], []⟩, ⟨.tup [], []⟩, ⟨.tup [], []⟩, ⟨.d (.bool true), []⟩, ⟨.d (.bool true), []⟩, ⟨.tup [], []⟩, ⟨.tup [], []⟩, ⟨.tup [], []⟩, ⟨.tup [], []⟩, ⟨.tup [], []⟩, ⟨.tup [], []⟩, ⟨.tup [], []⟩, ⟨.tup [], []⟩, ⟨.tup [], []⟩, ⟨.d (.bool true), []⟩, ⟨.d (.bool true), []⟩, ⟨.tup [], []⟩, ⟨.tup [], []⟩, ⟨.d (.bool true), []⟩, ⟨.d (.bool true), []⟩, ⟨.tup [], []⟩, ⟨.tup [], []⟩, ⟨.tup [], []⟩, ⟨.d (.bool true), []⟩, ⟨.d (.bool true), []⟩, ⟨.tup [], []⟩, ⟨.tup [], []⟩, ⟨.tup [], []⟩, ⟨.d (.bool true), []⟩, ⟨.d (.bool true), []⟩, ⟨.tup [], []⟩, ⟨.tup [], []⟩, ⟨.tup [], []⟩, ⟨.tup [], []⟩, ⟨.tup [], []⟩, ⟨.d (.bool true), []⟩, ⟨.d (.bool true), []⟩, ⟨.tup [], []⟩, ⟨.tup [], []⟩, ⟨.tup [], []⟩, ⟨.tup [], []⟩, ⟨.tup [], []⟩, ⟨.d (.bool true), []⟩] (by kernel_rfl) ?_
    refine RunAt.done (by kernel_rfl) ?_
    refine kS_nrm ?_
    refine Runs.cond_t (by kernel_rfl) ?_
    refine Runs.seq ?_
    refine Runs.ops ?_
    refine RunAt.chunk 1 [⟨.d (.bool false), []⟩] (by kernel_rfl) ?_
    refine RunAt.done (by kernel_rfl) ?_
    refine kS_nrm ?_
    refine Runs.ret ?_
    refine kS_ret ?_
    refine kB_ret ?_
    refine kS_ret ?_
    obtain rfl := Option.some.inj h
    exact ⟨nofun, rfl, (by kernel_rfl)⟩
  | false =>
    replace h := ite_f hb_19 h
    refine RunAt.chunk 6 [⟨.ptr [18] 0 1, []⟩, ⟨.d (.str c18.Class), []⟩, ⟨.d (.str class11), []⟩, ⟨.d (.bool (c18.Class != class11)), []⟩, ⟨.d (.bool (c18.Class != class11)), []⟩, ⟨.d (.bool (c18.Class != class11)), []⟩] (by kernel_rfl) ?_
    cases hb_20 : ((c18.Class != class11) : Bool) with
    | true =>
      replace h := ite_t hb_20 h
      refine RunAt.chunk 53 [⟨.tup [], []⟩, ⟨.tup [], []⟩, ⟨.tup [], []⟩, ⟨.tup [], []⟩, ⟨.tup [], []⟩, ⟨.d (.bool true), []⟩, ⟨.d (.bool true), []⟩, ⟨.tup [], []⟩, ⟨.tup [], []⟩, ⟨.tup [], []⟩, ⟨.tup [], []⟩, ⟨.tup [], []⟩, ⟨.tup [], []⟩, ⟨.d (.bool true), []⟩, ⟨.d (.bool true), []⟩, ⟨.tup [], []⟩, ⟨.tup [], []⟩, ⟨.tup [], []⟩, ⟨.tup [], []⟩, ⟨.tup [], []⟩, ⟨.tup [], []⟩, ⟨.tup [], []⟩, ⟨.tup [], []⟩, ⟨.tup [], []⟩, ⟨.d (.bool true), []⟩, ⟨.d (.bool true), []⟩, ⟨.tup [], []⟩, ⟨.tup [], []⟩, ⟨.d (.bool true), []⟩, ⟨.d (.bool true), []⟩, ⟨.tup [], []⟩, ⟨.tup [], []⟩, ⟨.tup [], []⟩, ⟨.d (.bool true), []⟩, ⟨.d (.bool true), []⟩, ⟨.tup [], []⟩, ⟨.tup [], []⟩, ⟨.tup [], []⟩, ⟨.d (.bool true), []⟩, ⟨.d (.bool true), []⟩, ⟨.tup [], []⟩, ⟨.tup [], []⟩, ⟨.tup [], []⟩, ⟨.tup [], []⟩, ⟨.tup [], []⟩, ⟨.d (.bool true), []⟩, ⟨.d (.bool true), []⟩, ⟨.tup [], []⟩, ⟨.tup [], []⟩, ⟨.tup [], []⟩, ⟨.tup [], []⟩, ⟨.tup [], []⟩, ⟨.d (.bool true), []⟩] (by kernel_rfl) ?_
      refine RunAt.done (by kernel_rfl) ?_
      refine kS_nrm ?_
      refine Runs.cond_t (by kernel_rfl) ?_
      refine Runs.seq ?_
      refine Runs.ops ?_
      refine RunAt.chunk 1 [⟨.d (.bool false), []⟩] (by kernel_rfl) ?_
      refine RunAt.done (by kernel_rfl) ?_
      refine kS_nrm ?_
      refine Runs.ret ?_
      refine kS_ret ?_
      refine kB_ret ?_
      refine kS_ret ?_
      obtain rfl := Option.some.inj h
      exact ⟨nofun, rfl, (by kernel_rfl)⟩
    | false =>
      replace h := ite_f hb_20 h
      refine RunAt.chunk 7 [⟨.ptr [18] 0 3, []⟩, ⟨.d (.int .i64 c18.Combine), []⟩, ⟨.ptr [8] 0 1, []⟩, ⟨.d (.int .i64 d8.Combine), []⟩, ⟨.d (.bool (c18.Combine != d8.Combine)), []⟩, ⟨.d (.bool (c18.Combine != d8.Combine)), []⟩, ⟨.d (.bool (c18.Combine != d8.Combine)), []⟩] (by kernel_rfl) ?_
      cases hb_21 : ((c18.Combine != d8.Combine) : Bool) with
      | true =>
        replace h := ite_t hb_21 h
        refine RunAt.chunk 46 [⟨.tup [], []⟩, ⟨.tup [], []⟩, ⟨.tup [], []⟩, ⟨.tup [], []⟩, ⟨.tup [], []⟩, ⟨.tup [], []⟩, ⟨.d (.bool true), []⟩, ⟨.d (.bool true), []⟩, ⟨.tup [], []⟩, ⟨.tup [], []⟩, ⟨.tup [], []⟩, ⟨.tup [], []⟩, ⟨.tup [], []⟩, ⟨.tup [], []⟩, ⟨.tup [], []⟩, ⟨.tup [], []⟩, ⟨.tup [], []⟩, ⟨.d (.bool true), []⟩, ⟨.d (.bool true), []⟩, ⟨.tup [], []⟩, ⟨.tup [], []⟩, ⟨.d (.bool true), []⟩, ⟨.d (.bool true), []⟩, ⟨.tup [], []⟩, ⟨.tup [], []⟩, ⟨.tup [], []⟩, ⟨.d (.bool true), []⟩, ⟨.d (.bool true), []⟩, ⟨.tup [], []⟩, ⟨.tup [], []⟩, ⟨.tup [], []⟩, ⟨.d (.bool true), []⟩, ⟨.d (.bool true), []⟩, ⟨.tup [], []⟩, ⟨.tup [], []⟩, ⟨.tup [], []⟩, ⟨.tup [], []⟩, ⟨.tup [], []⟩, ⟨.d (.bool true), []⟩, ⟨.d (.bool true), []⟩, ⟨.tup [], []⟩, ⟨.tup [], []⟩, ⟨.tup [], []⟩, ⟨.tup [], []⟩, ⟨.tup [], []⟩, ⟨.d (.bool true), []⟩] (by kernel_rfl) ?_
        refine RunAt.done (by kernel_rfl) ?_
        refine kS_nrm ?_
        refine Runs.cond_t (by kernel_rfl) ?_
        refine Runs.seq ?_
        refine Runs.ops ?_
        refine RunAt.chunk 1 [⟨.d (.bool false), []⟩] (by kernel_rfl) ?_
        refine RunAt.done (by kernel_rfl) ?_
        refine kS_nrm ?_
        refine Runs.ret ?_
        refine kS_ret ?_
        refine kB_ret ?_
        refine kS_ret ?_
        obtain rfl := Option.some.inj h
        exact ⟨nofun, rfl, (by kernel_rfl)⟩
      | false =>
        replace h := ite_f hb_21 h
        refine RunAt.chunk 2 [⟨.ptr [18] 0 2, []⟩, ⟨.d (.int .i64 c18.Align), []⟩] (by kernel_rfl) ?_
        obtain ⟨r_8, hr_8, h⟩ := bind_s h
        have hc_8 := hansomlaw40_step_L c18.Align r_8 hr_8
        refine RunAt.cut (some 250) (.callf 50) [] none [.d (.int .i64 c18.Align)] (.d (.int .i64 r_8)) [] (by kernel_rfl) (by kernel_rfl) (by kernel_rfl) (cut_call (call_of (ws := []) (us := []) (by kernel_rfl) (by kernel_rfl) hc_8 (by kernel_rfl) (by kernel_rfl))) ?_
        refine RunAt.chunk 1 [⟨.d (.int .i64 align20), []⟩] (by kernel_rfl) ?_
        obtain ⟨r_9, hr_9, h⟩ := bind_s h
        have hc_9 := hansomlaw40_step_L align20 r_9 hr_9
        refine RunAt.cut (some 252) (.callf 50) [] none [.d (.int .i64 align20)] (.d (.int .i64 r_9)) [] (by kernel_rfl) (by kernel_rfl) (by kernel_rfl) (cut_call (call_of (ws := []) (us := []) (by kernel_rfl) (by kernel_rfl) hc_9 (by kernel_rfl) (by kernel_rfl))) ?_
        refine RunAt.chunk 3 [⟨.d (.bool (r_8 != r_9)), []⟩, ⟨.d (.bool (r_8 != r_9)), []⟩, ⟨.d (.bool (r_8 != r_9)), []⟩] (by kernel_rfl) ?_
        cases hb_22 : ((r_8 != r_9) : Bool) with
        | true =>
          replace h := ite_t hb_22 h
          refine RunAt.chunk 38 [⟨.tup [], []⟩, ⟨.tup [], []⟩, ⟨.tup [], []⟩, ⟨.tup [], []⟩, ⟨.tup [], []⟩, ⟨.tup [], []⟩, ⟨.tup [], []⟩, ⟨.tup [], []⟩, ⟨.tup [], []⟩, ⟨.d (.bool true), []⟩, ⟨.d (.bool true), []⟩, ⟨.tup [], []⟩, ⟨.tup [], []⟩, ⟨.d (.bool true), []⟩, ⟨.d (.bool true), []⟩, ⟨.tup [], []⟩, ⟨.tup [], []⟩, ⟨.tup [], []⟩, ⟨.d (.bool true), []⟩, ⟨.d (.bool true), []⟩, ⟨.tup [], []⟩, ⟨.tup [], []⟩, ⟨.tup [], []⟩, ⟨.d (.bool true), []⟩, ⟨.d (.bool true), []⟩, ⟨.tup [], []⟩, ⟨.tup [], []⟩, ⟨.tup [], []⟩, ⟨.tup [], []⟩, ⟨.tup [], []⟩, ⟨.d (.bool true), []⟩, ⟨.d (.bool true), []⟩, ⟨.tup [], []⟩, ⟨.tup [], []⟩, ⟨.tup [], []⟩, ⟨.tup [], []⟩, ⟨.tup [], []⟩, ⟨.d (.bool true), []⟩] (by kernel_rfl) ?_
          refine RunAt.done (by kernel_rfl) ?_
          refine kS_nrm ?_
          refine Runs.cond_t (by kernel_rfl) ?_
          refine Runs.seq ?_
          refine Runs.ops ?_
          refine RunAt.chunk 1 [⟨.d (.bool false), []⟩] (by kernel_rfl) ?_
          refine RunAt.done (by kernel_rfl) ?_
          refine kS_nrm ?_
          refine Runs.ret ?_
          refine kS_ret ?_
          refine kB_ret ?_
          refine kS_ret ?_
          obtain rfl := Option.some.inj h
          exact ⟨nofun, rfl, (by kernel_rfl)⟩
        | false =>
          replace h := ite_f hb_22 h
          refine RunAt.chunk 11 [⟨.ptr [18] 0 6, []⟩, ⟨.d (.int .i64 c18.Len), []⟩, ⟨.d (.int .i64 was19), []⟩, ⟨.d (.int .i64 off14), []⟩, ⟨.ptr [8] 0 4, []⟩, ⟨.d (.int .i64 d8.Len), []⟩, ⟨.d (.int .i64 (IntKind.wrap .i64 (off14 + d8.Len))), []⟩, ⟨.d (.int .i64 (mxI was19 (IntKind.wrap .i64 (off14 + d8.Len)))), []⟩, ⟨.d (.bool (c18.Len != (mxI was19 (IntKind.wrap .i64 (off14 + d8.Len))))), []⟩, ⟨.d (.bool (c18.Len != (mxI was19 (IntKind.wrap .i64 (off14 + d8.Len))))), []⟩, ⟨.d (.bool (c18.Len != (mxI was19 (IntKind.wrap .i64 (off14 + d8.Len))))), []⟩] (by kernel_rfl) ?_
          cases hb_23 : ((c18.Len != (mxI was19 (IntKind.wrap .i64 (off14 + d8.Len)))) : Bool) with
          | true =>
            replace h := ite_t hb_23 h
            refine RunAt.chunk 27 [⟨.tup [], []⟩, ⟨.tup [], []⟩, ⟨.d (.bool true), []⟩, ⟨.d (.bool true), []⟩, ⟨.tup [], []⟩, ⟨.tup [], []⟩, ⟨.tup [], []⟩, ⟨.d (.bool true), []⟩, ⟨.d (.bool true), []⟩, ⟨.tup [], []⟩, ⟨.tup [], []⟩, ⟨.tup [], []⟩, ⟨.d (.bool true), []⟩, ⟨.d (.bool true), []⟩, ⟨.tup [], []⟩, ⟨.tup [], []⟩, ⟨.tup [], []⟩, ⟨.tup [], []⟩, ⟨.tup [], []⟩, ⟨.d (.bool true), []⟩, ⟨.d (.bool true), []⟩, ⟨.tup [], []⟩, ⟨.tup [], []⟩, ⟨.tup [], []⟩, ⟨.tup [], []⟩, ⟨.tup [], []⟩, ⟨.d (.bool true), []⟩] (by kernel_rfl) ?_
            refine RunAt.done (by kernel_rfl) ?_
            refine kS_nrm ?_
            refine Runs.cond_t (by kernel_rfl) ?_
            refine Runs.seq ?_
            refine Runs.ops ?_
            refine RunAt.chunk 1 [⟨.d (.bool false), []⟩] (by kernel_rfl) ?_
            refine RunAt.done (by kernel_rfl) ?_
            refine kS_nrm ?_
            refine Runs.ret ?_
            refine kS_ret ?_
            refine kB_ret ?_
            refine kS_ret ?_
            obtain rfl := Option.some.inj h
            exact ⟨nofun, rfl, (by kernel_rfl)⟩
          | false =>
            replace h := ite_f hb_23 h
            refine RunAt.chunk 4 [⟨.d (.bool r_7.2.2), []⟩, ⟨.d (.bool (!r_7.2.2)), []⟩, ⟨.d (.bool (!r_7.2.2)), []⟩, ⟨.d (.bool (!r_7.2.2)), []⟩] (by kernel_rfl) ?_
            cases hb_24 : ((!r_7.2.2) : Bool) with
            | true =>
              replace h := ite_t hb_24 h
              refine RunAt.chunk 23 [⟨.tup [], []⟩, ⟨.tup [], []⟩, ⟨.tup [], []⟩, ⟨.d (.bool true), []⟩, ⟨.d (.bool true), []⟩, ⟨.tup [], []⟩, ⟨.tup [], []⟩, ⟨.tup [], []⟩, ⟨.d (.bool true), []⟩, ⟨.d (.bool true), []⟩, ⟨.tup [], []⟩, ⟨.tup [], []⟩, ⟨.tup [], []⟩, ⟨.tup [], []⟩, ⟨.tup [], []⟩, ⟨.d (.bool true), []⟩, ⟨.d (.bool true), []⟩, ⟨.tup [], []⟩, ⟨.tup [], []⟩, ⟨.tup [], []⟩, ⟨.tup [], []⟩, ⟨.tup [], []⟩, ⟨.d (.bool true), []⟩] (by kernel_rfl) ?_
              refine RunAt.done (by kernel_rfl) ?_
              refine kS_nrm ?_
              refine Runs.cond_t (by kernel_rfl) ?_
              refine Runs.seq ?_
              refine Runs.ops ?_
              refine RunAt.chunk 1 [⟨.d (.bool false), []⟩] (by kernel_rfl) ?_
              refine RunAt.done (by kernel_rfl) ?_
              refine kS_nrm ?_
              refine Runs.ret ?_
              refine kS_ret ?_
              refine kB_ret ?_
              refine kS_ret ?_
              obtain rfl := Option.some.inj h
              exact ⟨nofun, rfl, (by kernel_rfl)⟩
            | false =>
              replace h := ite_f hb_24 h
              refine RunAt.chunk 5 [⟨.d (.int .i64 r_7.1), []⟩, ⟨.d (.int .i64 k17), []⟩, ⟨.d (.bool (r_7.1 != k17)), []⟩, ⟨.d (.bool (r_7.1 != k17)), []⟩, ⟨.d (.bool (r_7.1 != k17)), []⟩] (by kernel_rfl) ?_
              cases hb_25 : ((r_7.1 != k17) : Bool) with
              | true =>
                replace h := ite_t hb_25 h
                refine RunAt.chunk 18 [⟨.tup [], []⟩, ⟨.tup [], []⟩, ⟨.tup [], []⟩, ⟨.d (.bool true), []⟩, ⟨.d (.bool true), []⟩, ⟨.tup [], []⟩, ⟨.tup [], []⟩, ⟨.tup [], []⟩, ⟨.tup [], []⟩, ⟨.tup [], []⟩, ⟨.d (.bool true), []⟩, ⟨.d (.bool true), []⟩, ⟨.tup [], []⟩, ⟨.tup [], []⟩, ⟨.tup [], []⟩, ⟨.tup [], []⟩, ⟨.tup [], []⟩, ⟨.d (.bool true), []⟩] (by kernel_rfl) ?_
                refine RunAt.done (by kernel_rfl) ?_
                refine kS_nrm ?_
                refine Runs.cond_t (by kernel_rfl) ?_
                refine Runs.seq ?_
                refine Runs.ops ?_
                refine RunAt.chunk 1 [⟨.d (.bool false), []⟩] (by kernel_rfl) ?_
                refine RunAt.done (by kernel_rfl) ?_
                refine kS_nrm ?_
                refine Runs.ret ?_
                refine kS_ret ?_
                refine kB_ret ?_
                refine kS_ret ?_
                obtain rfl := Option.some.inj h
                exact ⟨nofun, rfl, (by kernel_rfl)⟩
              | false =>
                replace h := ite_f hb_25 h
                refine RunAt.chunk 5 [⟨.d (.int .i64 r_7.2.1), []⟩, ⟨.d (.int .i64 off14), []⟩, ⟨.d (.bool (r_7.2.1 != off14)), []⟩, ⟨.d (.bool (r_7.2.1 != off14)), []⟩, ⟨.d (.bool (r_7.2.1 != off14)), []⟩] (by kernel_rfl) ?_
                cases hb_26 : ((r_7.2.1 != off14) : Bool) with
                | true =>
                  replace h := ite_t hb_26 h
                  refine RunAt.chunk 13 [⟨.tup [], []⟩, ⟨.tup [], []⟩, ⟨.tup [], []⟩, ⟨.tup [], []⟩, ⟨.tup [], []⟩, ⟨.d (.bool true), []⟩, ⟨.d (.bool true), []⟩, ⟨.tup [], []⟩, ⟨.tup [], []⟩, ⟨.tup [], []⟩, ⟨.tup [], []⟩, ⟨.tup [], []⟩, ⟨.d (.bool true), []⟩] (by kernel_rfl) ?_
                  refine RunAt.done (by kernel_rfl) ?_
                  refine kS_nrm ?_
                  refine Runs.cond_t (by kernel_rfl) ?_
                  refine Runs.seq ?_
                  refine Runs.ops ?_
                  refine RunAt.chunk 1 [⟨.d (.bool false), []⟩] (by kernel_rfl) ?_
                  refine RunAt.done (by kernel_rfl) ?_
                  refine kS_nrm ?_
                  refine Runs.ret ?_
                  refine kS_ret ?_
                  refine kB_ret ?_
                  refine kS_ret ?_
                  obtain rfl := Option.some.inj h
                  exact ⟨nofun, rfl, (by kernel_rfl)⟩
                | false =>
                  replace h := ite_f hb_26 h
                  refine RunAt.chunk 7 [⟨.ptr [18] 0 4, []⟩, ⟨.d (.int .u16 c18.Frame), []⟩, ⟨.ptr [8] 0 2, []⟩, ⟨.d (.int .u16 d8.Frame), []⟩, ⟨.d (.bool (c18.Frame != d8.Frame)), []⟩, ⟨.d (.bool (c18.Frame != d8.Frame)), []⟩, ⟨.d (.bool (c18.Frame != d8.Frame)), []⟩] (by kernel_rfl) ?_
                  cases hb_27 : ((c18.Frame != d8.Frame) : Bool) with
                  | true =>
                    replace h := ite_t hb_27 h
                    refine RunAt.chunk 6 [⟨.tup [], []⟩, ⟨.tup [], []⟩, ⟨.tup [], []⟩, ⟨.tup [], []⟩, ⟨.tup [], []⟩, ⟨.d (.bool true), []⟩] (by kernel_rfl) ?_
                    refine RunAt.done (by kernel_rfl) ?_
                    refine kS_nrm ?_
                    refine Runs.cond_t (by kernel_rfl) ?_
                    refine Runs.seq ?_
                    refine Runs.ops ?_
                    refine RunAt.chunk 1 [⟨.d (.bool false), []⟩] (by kernel_rfl) ?_
                    refine RunAt.done (by kernel_rfl) ?_
                    refine kS_nrm ?_
                    refine Runs.ret ?_
                    refine kS_ret ?_
                    refine kB_ret ?_
                    refine kS_ret ?_
                    obtain rfl := Option.some.inj h
                    exact ⟨nofun, rfl, (by kernel_rfl)⟩
                  | false =>
                    replace h := ite_f hb_27 h
                    refine RunAt.chunk 6 [⟨.ptr [18] 0 5, []⟩, ⟨.d (.int .u8 c18.Offset), []⟩, ⟨.ptr [8] 0 3, []⟩, ⟨.d (.int .u8 d8.Offset), []⟩, ⟨.d (.bool (c18.Offset != d8.Offset)), []⟩, ⟨.d (.bool (c18.Offset != d8.Offset)), []⟩] (by kernel_rfl) ?_
                    refine RunAt.done (by kernel_rfl) ?_
                    refine kS_nrm ?_
                    cases hb_28 : ((c18.Offset != d8.Offset) : Bool) with
                    | true =>
                      replace h := ite_t hb_28 h
                      refine Runs.cond_t (by kernel_rfl) ?_
                      refine Runs.seq ?_
                      refine Runs.ops ?_
                      refine RunAt.chunk 1 [⟨.d (.bool false), []⟩] (by kernel_rfl) ?_
                      refine RunAt.done (by kernel_rfl) ?_
                      refine kS_nrm ?_
                      refine Runs.ret ?_
                      refine kS_ret ?_
                      refine kB_ret ?_
                      refine kS_ret ?_
                      obtain rfl := Option.some.inj h
                      exact ⟨nofun, rfl, (by kernel_rfl)⟩
                    | false =>
                      replace h := ite_f hb_28 h
                      refine Runs.cond_f (by kernel_rfl) ?_
                      refine Runs.skip ?_
                      refine kS_nrm ?_
                      refine Runs.ops ?_
                      refine RunAt.chunk 4 [⟨.d (.sl (List.map Comb.d next15)), []⟩, ⟨.ref [28] v_28 0 (List.map SegDef.d b_28).length 8, []⟩, ⟨.d (SegDef.d d8), []⟩, ⟨.ref [297] 0 0 (List.map SegDef.d ([d8] : List SegDef)).length 8, [([297], some (.arr (List.map SegDef.d ([d8] : List SegDef)) 0 false))]⟩] (by kernel_rfl) ?_
                      obtain ⟨z_10, hz_10, h⟩ := bind_s h
                      refine RunAt.cut (some 298) (.append 8 56 false) [] none [.ref [28] v_28 0 (List.map SegDef.d b_28).length 8, .ref [297] 0 0 (List.map SegDef.d ([d8] : List SegDef)).length 8] (.ref [28] (v_28 + 1) 0 (List.map SegDef.d z_10).length 8) [([297], some (.arr (List.map SegDef.d ([d8] : List SegDef)) 0 true)), ([28], some (.arr (List.map SegDef.d z_10) (v_28 + 1) false))] (by kernel_rfl) (by kernel_rfl) (by kernel_rfl) (cut_appR (e := SegDef.d) (l := b_28) (fz := false) (ws := [([297], some (.arr (List.map SegDef.d ([d8] : List SegDef)) 0 true))]) (ap_ref (e := SegDef.d) (l := ([d8] : List SegDef)) (fz := false) (by kernel_rfl) (by kernel_rfl) rfl) (fun _ => rfl) hz_10 (by kernel_rfl) (by kernel_rfl) rfl) ?_
                      refine RunAt.chunk 2 [⟨.d (.sl (List.map Comb.d next15)), []⟩, ⟨.ref [28] (v_28 + 1) 0 (List.map SegDef.d z_10).length 8, []⟩] (by kernel_rfl) ?_
                      refine RunAt.done (by kernel_rfl) ?_
                      refine kB_nrm ?_
                      refine kS_nrm ?_
                      refine Runs.ops ?_
                      refine RunAt.chunk 3 [⟨.d (.int .i64 i7), []⟩, ⟨.d (.int .i64 (IntKind.wrap .i64 (i7 + 1))), []⟩, ⟨.d (.int .i64 (IntKind.wrap .i64 (i7 + 1))), []⟩] (by kernel_rfl) ?_
                      refine RunAt.done (by kernel_rfl) ?_
                      obtain rfl := Option.some.inj h
                      exact ⟨rfl, (v_28 + 1), (Canon.same (by kernel_rfl) (Canon.nil (by kernel_rfl)))⟩
theorem hansomlaw40_CombAdds_j88_ok (l_ : (List SegDef)) (names_ : (List Int)) (d8 : SegDef) (b_28 : (List SegDef)) (l0 : (List SegDef)) (names1 : (List Int)) (m5 : (List Comb)) (i7 : Int) (name10 : (List UInt8)) (class11 : (List UInt8)) (at12 : Int) (off14 : Int) (next15 : (List Comb)) (k17 : Int) (v_28 : Nat) (r : (Lp ((List SegDef) × (List Comb) × Int) (Bool ⊕ ((List SegDef) × (List Comb))))) (h : hansomlaw40_CombAdds_j88 d8 b_28 l0 names1 m5 i7 name10 class11 at12 off14 next15 k17 = some r) : Runs L F13b88 (hansomlaw40_CombAdds_h88 d8 b_28 l0 names1 m5 i7 name10 class11 at12 off14 next15 k17 v_28) (kB 1 (kS L F13c123 (LQ [.frz 5] [0, 1, 5, 6, 7] [[28]] (fun (x : ((List SegDef) × (List Comb) × Int)) (g : Nat) => hansomlaw40_CombAdds_h8 x.1 l0 names1 x.2.1 x.2.2 g) (hansomlaw40_CombAdds_P8 l_ names_ l0 names1) r))) := by
  unfold hansomlaw40_CombAdds_j88 at h
  refine Runs.seq ?_
  refine Runs.seq ?_
  refine Runs.ops ?_
  refine RunAt.chunk 2 [⟨.d (.int .i64 k17), []⟩, ⟨.d (.sl (List.map Comb.d next15)), []⟩] (by kernel_rfl) ?_
  refine RunAt.cut (some 192) .lenL [] none [.d (.sl (List.map Comb.d next15))] (.d (.int .i64 (next15.length : Int))) [] (by kernel_rfl) (by kernel_rfl) (by kernel_rfl) (cut_len _) ?_
  refine RunAt.chunk 1 [⟨.d (.bool (decide (k17 ≥ (next15.length : Int)))), []⟩] (by kernel_rfl) ?_
  refine RunAt.done (by kernel_rfl) ?_
  refine kS_nrm ?_
  cases hb_16 : ((decide (k17 ≥ (next15.length : Int))) : Bool) with
  | true =>
    replace h := ite_t hb_16 h
    refine Runs.cond_t (by kernel_rfl) ?_
    refine Runs.seq ?_
    refine Runs.ops ?_
    refine RunAt.chunk 1 [⟨.d (.bool false), []⟩] (by kernel_rfl) ?_
    refine RunAt.done (by kernel_rfl) ?_
    refine kS_nrm ?_
    refine Runs.ret ?_
    refine kS_ret ?_
    refine kB_ret ?_
    refine kS_ret ?_
    obtain rfl := Option.some.inj h
    exact ⟨nofun, rfl, (by kernel_rfl)⟩
  | false =>
    replace h := ite_f hb_16 h
    refine Runs.cond_f (by kernel_rfl) ?_
    refine Runs.skip ?_
    refine kS_nrm ?_
    refine Runs.seq ?_
    refine Runs.ops ?_
    refine RunAt.chunk 2 [⟨.d (.sl (List.map Comb.d next15)), []⟩, ⟨.d (.int .i64 k17), []⟩] (by kernel_rfl) ?_
    obtain ⟨z_6, hz_6, h⟩ := bind_s h
    refine RunAt.cut (some 196) (.iaddrS 8) [] none [.d (.sl (List.map Comb.d next15)), .d (.int .i64 k17)] (.elt (Comb.d z_6) 0) [] (by kernel_rfl) (by kernel_rfl) (by kernel_rfl) (cut_at hz_6 (fun _ => rfl)) ?_
    refine RunAt.chunk 3 [⟨.d (Comb.d z_6), []⟩, ⟨.ptr [18] 0 0, [([18], some (.cells [.d (.str []), .d (.str []), .d (.int .i64 0), .d (.int .i64 0), .d (.int .u16 0), .d (.int .u8 0), .d (.int .i64 0), .nils] 0))]⟩, ⟨.tup [], [([18], some (.cells [.d (.str z_6.Name), .d (.str z_6.Class), .d (.int .i64 z_6.Align), .d (.int .i64 z_6.Combine), .d (.int .u16 z_6.Frame), .d (.int .u8 z_6.Offset), .d (.int .i64 z_6.Len), .d (.sl (List.map Chunk.d z_6.Chunks))] 0))]⟩] (by kernel_rfl) ?_
    refine RunAt.done (by kernel_rfl) ?_
    refine kS_nrm ?_
    refine Runs.seq ?_
    refine Runs.ops ?_
    refine RunAt.chunk 4 [⟨.ptr [8] 0 0, []⟩, ⟨.d (.int .i64 d8.Align), []⟩, ⟨.d (.int .i64 0), []⟩, ⟨.d (.int .i64 d8.Align), []⟩] (by kernel_rfl) ?_
    refine RunAt.done (by kernel_rfl) ?_
    refine kS_nrm ?_
    refine Runs.seq ?_
    refine Runs.seq ?_
    refine Runs.ops ?_
    refine RunAt.chunk 2 [⟨.d (.int .i64 at12), []⟩, ⟨.d (.bool (decide (at12 ≥ 0))), []⟩] (by kernel_rfl) ?_
    refine RunAt.done (by kernel_rfl) ?_
    refine kS_nrm ?_
    cases hb_17 : ((decide (at12 ≥ 0)) : Bool) with
    | true =>
      replace h := ite_t hb_17 h
      refine Runs.cond_t (by kernel_rfl) ?_
      refine Runs.seq ?_
      refine Runs.ops ?_
      refine RunAt.chunk 2 [⟨.d (.sl (List.map Comb.d m5)), []⟩, ⟨.d (.int .i64 at12), []⟩] (by kernel_rfl) ?_
      obtain ⟨z_7, hz_7, h⟩ := bind_s h
      refine RunAt.cut (some 204) (.iaddrS 8) [] none [.d (.sl (List.map Comb.d m5)), .d (.int .i64 at12)] (.elt (Comb.d z_7) 0) [] (by kernel_rfl) (by kernel_rfl) (by kernel_rfl) (cut_at hz_7 (fun _ => rfl)) ?_
      refine RunAt.chunk 3 [⟨.elt (Comb.d z_7) 6, []⟩, ⟨.d (.int .i64 z_7.Len), []⟩, ⟨.d (.int .i64 z_7.Len), []⟩] (by kernel_rfl) ?_
      refine RunAt.done (by kernel_rfl) ?_
      refine kS_nrm ?_
      refine Runs.seq ?_
      refine Runs.ops ?_
      refine RunAt.chunk 2 [⟨.d (.sl (List.map Comb.d m5)), []⟩, ⟨.d (.int .i64 at12), []⟩] (by kernel_rfl) ?_
      obtain ⟨z_8, hz_8, h⟩ := bind_s h
      refine RunAt.cut (some 209) (.iaddrS 8) [] none [.d (.sl (List.map Comb.d m5)), .d (.int .i64 at12)] (.elt (Comb.d z_8) 0) [] (by kernel_rfl) (by kernel_rfl) (by kernel_rfl) (cut_at hz_8 (fun _ => rfl)) ?_
      refine RunAt.chunk 2 [⟨.elt (Comb.d z_8) 2, []⟩, ⟨.d (.int .i64 z_8.Align), []⟩] (by kernel_rfl) ?_
      obtain ⟨r_5, hr_5, h⟩ := bind_s h
      have hc_5 := hansomlaw40_step_L z_8.Align r_5 hr_5
      refine RunAt.cut (some 212) (.callf 50) [] (some []) [.d (.int .i64 z_8.Align)] (.d (.int .i64 r_5)) [] (by kernel_rfl) (by kernel_rfl) (by kernel_rfl) (cut_call (call_of (ws := []) (us := []) (by kernel_rfl) (by kernel_rfl) hc_5 (by kernel_rfl) (by kernel_rfl))) ?_
      refine RunAt.chunk 2 [⟨.ptr [8] 0 0, []⟩, ⟨.d (.int .i64 d8.Align), []⟩] (by kernel_rfl) ?_
      obtain ⟨r_6, hr_6, h⟩ := bind_s h
      have hc_6 := hansomlaw40_step_L d8.Align r_6 hr_6
      refine RunAt.cut (some 215) (.callf 50) [] none [.d (.int .i64 d8.Align)] (.d (.int .i64 r_6)) [] (by kernel_rfl) (by kernel_rfl) (by kernel_rfl) (cut_call (call_of (ws := []) (us := []) (by kernel_rfl) (by kernel_rfl) hc_6 (by kernel_rfl) (by kernel_rfl))) ?_
      refine RunAt.chunk 1 [⟨.d (.bool (decide (r_5 ≥ r_6))), []⟩] (by kernel_rfl) ?_
      refine RunAt.done (by kernel_rfl) ?_
      refine kS_nrm ?_
      cases hb_18 : ((decide (r_5 ≥ r_6)) : Bool) with
      | true =>
        replace h := ite_t hb_18 h
        refine Runs.cond_t (by kernel_rfl) ?_
        refine Runs.ops ?_
        refine RunAt.chunk 2 [⟨.d (.sl (List.map Comb.d m5)), []⟩, ⟨.d (.int .i64 at12), []⟩] (by kernel_rfl) ?_
        obtain ⟨z_9, hz_9, h⟩ := bind_s h
        refine RunAt.cut (some 219) (.iaddrS 8) [] none [.d (.sl (List.map Comb.d m5)), .d (.int .i64 at12)] (.elt (Comb.d z_9) 0) [] (by kernel_rfl) (by kernel_rfl) (by kernel_rfl) (cut_at hz_9 (fun _ => rfl)) ?_
        refine RunAt.chunk 3 [⟨.elt (Comb.d z_9) 2, []⟩, ⟨.d (.int .i64 z_9.Align), []⟩, ⟨.d (.int .i64 z_9.Align), []⟩] (by kernel_rfl) ?_
        refine RunAt.done (by kernel_rfl) ?_
        refine kS_nrm ?_
        refine Runs.canon (hansomlaw40_CombAdds_h112 d8 z_6 b_28 l0 names1 i7 name10 class11 off14 next15 k17 z_7.Len z_9.Align v_28) (Canon.nil (by kernel_rfl)) ?_
        exact hansomlaw40_CombAdds_j112_ok l_ names_ d8 z_6 b_28 l0 names1 i7 name10 class11 off14 next15 k17 z_7.Len z_9.Align v_28 r h
      | false =>
        replace h := ite_f hb_18 h
        refine Runs.cond_f (by kernel_rfl) ?_
        refine Runs.skip ?_
        refine kS_nrm ?_
        refine Runs.canon (hansomlaw40_CombAdds_h112 d8 z_6 b_28 l0 names1 i7 name10 class11 off14 next15 k17 z_7.Len d8.Align v_28) (Canon.nil (by kernel_rfl)) ?_
        exact hansomlaw40_CombAdds_j112_ok l_ names_ d8 z_6 b_28 l0 names1 i7 name10 class11 off14 next15 k17 z_7.Len d8.Align v_28 r h
    | false =>
      replace h := ite_f hb_17 h
      refine Runs.cond_f (by kernel_rfl) ?_
      refine Runs.skip ?_
      refine kS_nrm ?_
      refine Runs.canon (hansomlaw40_CombAdds_h112 d8 z_6 b_28 l0 names1 i7 name10 class11 off14 next15 k17 0 d8.Align v_28) (Canon.nil (by kernel_rfl)) ?_
      exact hansomlaw40_CombAdds_j112_ok l_ names_ d8 z_6 b_28 l0 names1 i7 name10 class11 off14 next15 k17 0 d8.Align v_28 r h
theorem hansomlaw40_CombAdds_j80_ok (l_ : (List SegDef)) (names_ : (List Int)) (d8 : SegDef) (b_28 : (List SegDef)) (l0 : (List SegDef)) (names1 : (List Int)) (m5 : (List Comb)) (i7 : Int) (name10 : (List UInt8)) (class11 : (List UInt8)) (at12 : Int) (off14 : Int) (next15 : (List Comb)) (v_28 : Nat) (r : (Lp ((List SegDef) × (List Comb) × Int) (Bool ⊕ ((List SegDef) × (List Comb))))) (h : hansomlaw40_CombAdds_j80 d8 b_28 l0 names1 m5 i7 name10 class11 at12 off14 next15 = some r) : Runs L F13b80 (hansomlaw40_CombAdds_h80 d8 b_28 l0 names1 m5 i7 name10 class11 at12 off14 next15 v_28) (kB 1 (kS L F13c123 (LQ [.frz 5] [0, 1, 5, 6, 7] [[28]] (fun (x : ((List SegDef) × (List Comb) × Int)) (g : Nat) => hansomlaw40_CombAdds_h8 x.1 l0 names1 x.2.1 x.2.2 g) (hansomlaw40_CombAdds_P8 l_ names_ l0 names1) r))) := by
  unfold hansomlaw40_CombAdds_j80 at h
  refine Runs.seq ?_
  refine Runs.ops ?_
  refine RunAt.chunk 2 [⟨.d (.int .i64 at12), []⟩, ⟨.d (.int .i64 at12), []⟩] (by kernel_rfl) ?_
  refine RunAt.done (by kernel_rfl) ?_
  refine kS_nrm ?_
  refine Runs.seq ?_
  refine Runs.seq ?_
  refine Runs.ops ?_
  refine RunAt.chunk 2 [⟨.d (.int .i64 at12), []⟩, ⟨.d (.bool (decide (at12 < 0))), []⟩] (by kernel_rfl) ?_
  refine RunAt.done (by kernel_rfl) ?_
  refine kS_nrm ?_
  cases hb_15 : ((decide (at12 < 0)) : Bool) with
  | true =>
    replace h := ite_t hb_15 h
    refine Runs.cond_t (by kernel_rfl) ?_
    refine Runs.ops ?_
    refine RunAt.chunk 1 [⟨.d (.sl (List.map Comb.d m5)), []⟩] (by kernel_rfl) ?_
    refine RunAt.cut (some 189) .lenL [] none [.d (.sl (List.map Comb.d m5))] (.d (.int .i64 (m5.length : Int))) [] (by kernel_rfl) (by kernel_rfl) (by kernel_rfl) (cut_len _) ?_
    refine RunAt.chunk 1 [⟨.d (.int .i64 (m5.length : Int)), []⟩] (by kernel_rfl) ?_
    refine RunAt.done (by kernel_rfl) ?_
    refine kS_nrm ?_
    refine Runs.canon (hansomlaw40_CombAdds_h88 d8 b_28 l0 names1 m5 i7 name10 class11 at12 off14 next15 (m5.length : Int) v_28) (Canon.nil (by kernel_rfl)) ?_
    exact hansomlaw40_CombAdds_j88_ok l_ names_ d8 b_28 l0 names1 m5 i7 name10 class11 at12 off14 next15 (m5.length : Int) v_28 r h
  | false =>
    replace h := ite_f hb_15 h
    refine Runs.cond_f (by kernel_rfl) ?_
    refine Runs.skip ?_
    refine kS_nrm ?_
    refine Runs.canon (hansomlaw40_CombAdds_h88 d8 b_28 l0 names1 m5 i7 name10 class11 at12 off14 next15 at12 v_28) (Canon.nil (by kernel_rfl)) ?_
    exact hansomlaw40_CombAdds_j88_ok l_ names_ d8 b_28 l0 names1 m5 i7 name10 class11 at12 off14 next15 at12 v_28 r h
theorem hansomlaw40_CombAdds_j72_ok (l_ : (List SegDef)) (names_ : (List Int)) (d8 : SegDef) (b_28 : (List SegDef)) (l0 : (List SegDef)) (names1 : (List Int)) (m5 : (List Comb)) (i7 : Int) (name10 : (List UInt8)) (class11 : (List UInt8)) (at12 : Int) (off14 : Int) (next15 : (List Comb)) (e16 : Int) (v_28 : Nat) (r : (Lp ((List SegDef) × (List Comb) × Int) (Bool ⊕ ((List SegDef) × (List Comb))))) (h : hansomlaw40_CombAdds_j72 d8 b_28 l0 names1 m5 i7 name10 class11 at12 off14 next15 e16 = some r) : Runs L F13b72 (hansomlaw40_CombAdds_h72 d8 b_28 l0 names1 m5 i7 name10 class11 at12 off14 next15 e16 v_28) (kB 1 (kS L F13c123 (LQ [.frz 5] [0, 1, 5, 6, 7] [[28]] (fun (x : ((List SegDef) × (List Comb) × Int)) (g : Nat) => hansomlaw40_CombAdds_h8 x.1 l0 names1 x.2.1 x.2.2 g) (hansomlaw40_CombAdds_P8 l_ names_ l0 names1) r))) := by
  unfold hansomlaw40_CombAdds_j72 at h
  refine Runs.seq ?_
  refine Runs.seq ?_
  refine Runs.ops ?_
  refine RunAt.chunk 3 [⟨.d (.int .i64 e16), []⟩, ⟨.d (.bool (e16 != 0)), []⟩, ⟨.d (.bool (e16 != 0)), []⟩] (by kernel_rfl) ?_
  cases hb_10 : ((e16 != 0) : Bool) with
  | true =>
    replace h := ite_t hb_10 h
    refine RunAt.chunk 22 [⟨.tup [], []⟩, ⟨.tup [], []⟩, ⟨.tup [], []⟩, ⟨.tup [], []⟩, ⟨.tup [], []⟩, ⟨.tup [], []⟩, ⟨.tup [], []⟩, ⟨.tup [], []⟩, ⟨.tup [], []⟩, ⟨.tup [], []⟩, ⟨.d (.bool true), []⟩, ⟨.d (.bool true), []⟩, ⟨.tup [], []⟩, ⟨.tup [], []⟩, ⟨.tup [], []⟩, ⟨.tup [], []⟩, ⟨.tup [], []⟩, ⟨.tup [], []⟩, ⟨.tup [], []⟩, ⟨.tup [], []⟩, ⟨.tup [], []⟩, ⟨.d (.bool true), []⟩] (by kernel_rfl) ?_
    refine RunAt.done (by kernel_rfl) ?_
    refine kS_nrm ?_
    refine Runs.cond_t (by kernel_rfl) ?_
    refine Runs.seq ?_
    refine Runs.ops ?_
    refine RunAt.chunk 1 [⟨.d (.bool false), []⟩] (by kernel_rfl) ?_
    refine RunAt.done (by kernel_rfl) ?_
    refine kS_nrm ?_
    refine Runs.ret ?_
    refine kS_ret ?_
    refine kB_ret ?_
    refine kS_ret ?_
    obtain rfl := Option.some.inj h
    exact ⟨nofun, rfl, (by kernel_rfl)⟩
  | false =>
    replace h := ite_f hb_10 h
    refine RunAt.chunk 3 [⟨.d (.int .i64 at12), []⟩, ⟨.d (.bool (decide (at12 < 0))), []⟩, ⟨.d (.bool (decide (at12 < 0))), []⟩] (by kernel_rfl) ?_
    cases hb_11 : ((decide (at12 < 0)) : Bool) with
    | true =>
      replace h := ite_t hb_11 h
      refine RunAt.chunk 1 [⟨.d (.sl (List.map Comb.d next15)), []⟩] (by kernel_rfl) ?_
      refine RunAt.cut (some 167) .lenL [] none [.d (.sl (List.map Comb.d next15))] (.d (.int .i64 (next15.length : Int))) [] (by kernel_rfl) (by kernel_rfl) (by kernel_rfl) (cut_len _) ?_
      refine RunAt.chunk 1 [⟨.d (.sl (List.map Comb.d m5)), []⟩] (by kernel_rfl) ?_
      refine RunAt.cut (some 169) .lenL [] none [.d (.sl (List.map Comb.d m5))] (.d (.int .i64 (m5.length : Int))) [] (by kernel_rfl) (by kernel_rfl) (by kernel_rfl) (cut_len _) ?_
      refine RunAt.chunk 5 [⟨.d (.int .i64 (IntKind.wrap .i64 ((m5.length : Int) + 1))), []⟩, ⟨.d (.bool ((next15.length : Int) != (IntKind.wrap .i64 ((m5.length : Int) + 1)))), []⟩, ⟨.d (.bool ((next15.length : Int) != (IntKind.wrap .i64 ((m5.length : Int) + 1)))), []⟩, ⟨.d (.bool ((next15.length : Int) != (IntKind.wrap .i64 ((m5.length : Int) + 1)))), []⟩, ⟨.d (.bool ((next15.length : Int) != (IntKind.wrap .i64 ((m5.length : Int) + 1)))), []⟩] (by kernel_rfl) ?_
      cases hb_12 : (((next15.length : Int) != (IntKind.wrap .i64 ((m5.length : Int) + 1))) : Bool) with
      | true =>
        replace h := ite_t hb_12 h
        refine RunAt.chunk 10 [⟨.tup [], []⟩, ⟨.tup [], []⟩, ⟨.tup [], []⟩, ⟨.tup [], []⟩, ⟨.tup [], []⟩, ⟨.tup [], []⟩, ⟨.tup [], []⟩, ⟨.tup [], []⟩, ⟨.tup [], []⟩, ⟨.d (.bool true), []⟩] (by kernel_rfl) ?_
        refine RunAt.done (by kernel_rfl) ?_
        refine kS_nrm ?_
        refine Runs.cond_t (by kernel_rfl) ?_
        refine Runs.seq ?_
        refine Runs.ops ?_
        refine RunAt.chunk 1 [⟨.d (.bool false), []⟩] (by kernel_rfl) ?_
        refine RunAt.done (by kernel_rfl) ?_
        refine kS_nrm ?_
        refine Runs.ret ?_
        refine kS_ret ?_
        refine kB_ret ?_
        refine kS_ret ?_
        obtain rfl := Option.some.inj h
        exact ⟨nofun, rfl, (by kernel_rfl)⟩
      | false =>
        replace h := ite_f hb_12 h
        refine RunAt.chunk 3 [⟨.d (.int .i64 at12), []⟩, ⟨.d (.bool (decide (at12 ≥ 0))), []⟩, ⟨.d (.bool (decide (at12 ≥ 0))), []⟩] (by kernel_rfl) ?_
        cases hb_13 : ((decide (at12 ≥ 0)) : Bool) with
        | true =>
          replace h := ite_t hb_13 h
          refine RunAt.chunk 1 [⟨.d (.sl (List.map Comb.d next15)), []⟩] (by kernel_rfl) ?_
          refine RunAt.cut (some 179) .lenL [] none [.d (.sl (List.map Comb.d next15))] (.d (.int .i64 (next15.length : Int))) [] (by kernel_rfl) (by kernel_rfl) (by kernel_rfl) (cut_len _) ?_
          refine RunAt.chunk 1 [⟨.d (.sl (List.map Comb.d m5)), []⟩] (by kernel_rfl) ?_
          refine RunAt.cut (some 181) .lenL [] none [.d (.sl (List.map Comb.d m5))] (.d (.int .i64 (m5.length : Int))) [] (by kernel_rfl) (by kernel_rfl) (by kernel_rfl) (cut_len _) ?_
          refine RunAt.chunk 3 [⟨.d (.bool ((next15.length : Int) != (m5.length : Int))), []⟩, ⟨.d (.bool ((next15.length : Int) != (m5.length : Int))), []⟩, ⟨.d (.bool ((next15.length : Int) != (m5.length : Int))), []⟩] (by kernel_rfl) ?_
          refine RunAt.done (by kernel_rfl) ?_
          refine kS_nrm ?_
          cases hb_14 : (((next15.length : Int) != (m5.length : Int)) : Bool) with
          | true =>
            replace h := ite_t hb_14 h
            refine Runs.cond_t (by kernel_rfl) ?_
            refine Runs.seq ?_
            refine Runs.ops ?_
            refine RunAt.chunk 1 [⟨.d (.bool false), []⟩] (by kernel_rfl) ?_
            refine RunAt.done (by kernel_rfl) ?_
            refine kS_nrm ?_
            refine Runs.ret ?_
            refine kS_ret ?_
            refine kB_ret ?_
            refine kS_ret ?_
            obtain rfl := Option.some.inj h
            exact ⟨nofun, rfl, (by kernel_rfl)⟩
          | false =>
            replace h := ite_f hb_14 h
            refine Runs.cond_f (by kernel_rfl) ?_
            refine Runs.skip ?_
            refine kS_nrm ?_
            refine Runs.canon (hansomlaw40_CombAdds_h80 d8 b_28 l0 names1 m5 i7 name10 class11 at12 off14 next15 v_28) (Canon.nil (by kernel_rfl)) ?_
            exact hansomlaw40_CombAdds_j80_ok l_ names_ d8 b_28 l0 names1 m5 i7 name10 class11 at12 off14 next15 v_28 r h
        | false =>
          replace h := ite_f hb_13 h
          refine RunAt.chunk 7 [⟨.tup [], []⟩, ⟨.tup [], []⟩, ⟨.tup [], []⟩, ⟨.tup [], []⟩, ⟨.tup [], []⟩, ⟨.d (.bool false), []⟩, ⟨.d (.bool false), []⟩] (by kernel_rfl) ?_
          refine RunAt.done (by kernel_rfl) ?_
          refine kS_nrm ?_
          refine Runs.cond_f (by kernel_rfl) ?_
          refine Runs.skip ?_
          refine kS_nrm ?_
          refine Runs.canon (hansomlaw40_CombAdds_h80 d8 b_28 l0 names1 m5 i7 name10 class11 at12 off14 next15 v_28) (Canon.nil (by kernel_rfl)) ?_
          exact hansomlaw40_CombAdds_j80_ok l_ names_ d8 b_28 l0 names1 m5 i7 name10 class11 at12 off14 next15 v_28 r h
    | false =>
      replace h := ite_f hb_11 h
      refine RunAt.chunk 12 [⟨.tup [], []⟩, ⟨.tup [], []⟩, ⟨.tup [], []⟩, ⟨.tup [], []⟩, ⟨.tup [], []⟩, ⟨.tup [], []⟩, ⟨.d (.bool false), []⟩, ⟨.d (.bool false), []⟩, ⟨.d (.bool false), []⟩, ⟨.d (.int .i64 at12), []⟩, ⟨.d (.bool (decide (at12 ≥ 0))), []⟩, ⟨.d (.bool (decide (at12 ≥ 0))), []⟩] (by kernel_rfl) ?_
      cases hb_29 : ((decide (at12 ≥ 0)) : Bool) with
      | true =>
        replace h := ite_t hb_29 h
        refine RunAt.chunk 1 [⟨.d (.sl (List.map Comb.d next15)), []⟩] (by kernel_rfl) ?_
        refine RunAt.cut (some 179) .lenL [] none [.d (.sl (List.map Comb.d next15))] (.d (.int .i64 (next15.length : Int))) [] (by kernel_rfl) (by kernel_rfl) (by kernel_rfl) (cut_len _) ?_
        refine RunAt.chunk 1 [⟨.d (.sl (List.map Comb.d m5)), []⟩] (by kernel_rfl) ?_
        refine RunAt.cut (some 181) .lenL [] none [.d (.sl (List.map Comb.d m5))] (.d (.int .i64 (m5.length : Int))) [] (by kernel_rfl) (by kernel_rfl) (by kernel_rfl) (cut_len _) ?_
        refine RunAt.chunk 3 [⟨.d (.bool ((next15.length : Int) != (m5.length : Int))), []⟩, ⟨.d (.bool ((next15.length : Int) != (m5.length : Int))), []⟩, ⟨.d (.bool ((next15.length : Int) != (m5.length : Int))), []⟩] (by kernel_rfl) ?_
        refine RunAt.done (by kernel_rfl) ?_
        refine kS_nrm ?_
        cases hb_30 : (((next15.length : Int) != (m5.length : Int)) : Bool) with
        | true =>
          replace h := ite_t hb_30 h
          refine Runs.cond_t (by kernel_rfl) ?_
          refine Runs.seq ?_
          refine Runs.ops ?_
          refine RunAt.chunk 1 [⟨.d (.bool false), []⟩] (by kernel_rfl) ?_
          refine RunAt.done (by kernel_rfl) ?_
          refine kS_nrm ?_
          refine Runs.ret ?_
          refine kS_ret ?_
          refine kB_ret ?_
          refine kS_ret ?_
          obtain rfl := Option.some.inj h
          exact ⟨nofun, rfl, (by kernel_rfl)⟩
        | false =>
          replace h := ite_f hb_30 h
          refine Runs.cond_f (by kernel_rfl) ?_
          refine Runs.skip ?_
          refine kS_nrm ?_
          refine Runs.canon (hansomlaw40_CombAdds_h80 d8 b_28 l0 names1 m5 i7 name10 class11 at12 off14 next15 v_28) (Canon.nil (by kernel_rfl)) ?_
          exact hansomlaw40_CombAdds_j80_ok l_ names_ d8 b_28 l0 names1 m5 i7 name10 class11 at12 off14 next15 v_28 r h
      | false =>
        replace h := ite_f hb_29 h
        refine RunAt.chunk 7 [⟨.tup [], []⟩, ⟨.tup [], []⟩, ⟨.tup [], []⟩, ⟨.tup [], []⟩, ⟨.tup [], []⟩, ⟨.d (.bool false), []⟩, ⟨.d (.bool false), []⟩] (by kernel_rfl) ?_
        refine RunAt.done (by kernel_rfl) ?_
        refine kS_nrm ?_
        refine Runs.cond_f (by kernel_rfl) ?_
        refine Runs.skip ?_
        refine kS_nrm ?_
        refine Runs.canon (hansomlaw40_CombAdds_h80 d8 b_28 l0 names1 m5 i7 name10 class11 at12 off14 next15 v_28) (Canon.nil (by kernel_rfl)) ?_
        exact hansomlaw40_CombAdds_j80_ok l_ names_ d8 b_28 l0 names1 m5 i7 name10 class11 at12 off14 next15 v_28 r h
theorem hansomlaw40_CombAdds_j56_ok (l_ : (List SegDef)) (names_ : (List Int)) (d8 : SegDef) (b_28 : (List SegDef)) (l0 : (List SegDef)) (names1 : (List Int)) (m5 : (List Comb)) (i7 : Int) (name10 : (List UInt8)) (class11 : (List UInt8)) (at12 : Int) (off14 : Int) (v_28 : Nat) (r : (Lp ((List SegDef) × (List Comb) × Int) (Bool ⊕ ((List SegDef) × (List Comb))))) (h : hansomlaw40_CombAdds_j56 d8 b_28 l0 names1 m5 i7 name10 class11 at12 off14 = some r) : Runs L F13b56 (hansomlaw40_CombAdds_h56 d8 b_28 l0 names1 m5 i7 name10 class11 at12 off14 v_28) (kB 1 (kS L F13c123 (LQ [.frz 5] [0, 1, 5, 6, 7] [[28]] (fun (x : ((List SegDef) × (List Comb) × Int)) (g : Nat) => hansomlaw40_CombAdds_h8 x.1 l0 names1 x.2.1 x.2.2 g) (hansomlaw40_CombAdds_P8 l_ names_ l0 names1) r))) := by
  unfold hansomlaw40_CombAdds_j56 at h
  refine Runs.seq ?_
  refine Runs.ops ?_
  refine RunAt.chunk 6 [⟨.d (.sl (List.map Comb.d m5)), []⟩, ⟨.d (.str name10), []⟩, ⟨.d (.str class11), []⟩, ⟨.d (SegDef.d d8), []⟩, ⟨.d (.int .i64 i7), []⟩, ⟨.d (.int .i64 (IntKind.wrap .i64 (i7 + 1))), []⟩] (by kernel_rfl) ?_
  obtain ⟨r_4, hr_4, h⟩ := bind_s h
  have hc_4 := comb_Add_L m5 name10 class11 d8 7 (IntKind.wrap .i64 (i7 + 1)) r_4 hr_4
  refine RunAt.cut (some 141) (.callf 51) [] none [.d (.sl (List.map Comb.d m5)), .d (.str name10), .d (.str class11), .d (SegDef.d d8), .d (.int .i64 7), .d (.int .i64 (IntKind.wrap .i64 (i7 + 1)))] (.tup [.d (.sl (List.map Comb.d r_4.1)), .d (.int .i64 r_4.2)]) [] (by kernel_rfl) (by kernel_rfl) (by kernel_rfl) (cut_call (call_of (ws := []) (us := []) (by kernel_rfl) (by kernel_rfl) hc_4 (by kernel_rfl) (by kernel_rfl))) ?_
  refine RunAt.chunk 5 [⟨.tup [.d (.sl (List.map Comb.d r_4.1)), .d (.int .i64 r_4.2)], []⟩, ⟨.d (.sl (List.map Comb.d r_4.1)), []⟩, ⟨.d (.int .i64 r_4.2), []⟩, ⟨.d (.sl (List.map Comb.d r_4.1)), []⟩, ⟨.d (.int .i64 r_4.2), []⟩] (by kernel_rfl) ?_
  refine RunAt.done (by kernel_rfl) ?_
  refine kS_nrm ?_
  refine Runs.seq ?_
  refine Runs.seq ?_
  refine Runs.ops ?_
  refine RunAt.chunk 3 [⟨.d (.int .i64 at12), []⟩, ⟨.d (.bool (decide (at12 ≥ 0))), []⟩, ⟨.d (.bool (decide (at12 ≥ 0))), []⟩] (by kernel_rfl) ?_
  cases hb_6 : ((decide (at12 ≥ 0)) : Bool) with
  | true =>
    replace h := ite_t hb_6 h
    refine RunAt.chunk 6 [⟨.d (.int .i64 off14), []⟩, ⟨.ptr [8] 0 4, []⟩, ⟨.d (.int .i64 d8.Len), []⟩, ⟨.d (.int .i64 (IntKind.wrap .i64 (off14 + d8.Len))), []⟩, ⟨.d (.bool (decide ((IntKind.wrap .i64 (off14 + d8.Len)) > 65536))), []⟩, ⟨.d (.bool (decide ((IntKind.wrap .i64 (off14 + d8.Len)) > 65536))), []⟩] (by kernel_rfl) ?_
    refine RunAt.done (by kernel_rfl) ?_
    refine kS_nrm ?_
    cases hb_7 : ((decide ((IntKind.wrap .i64 (off14 + d8.Len)) > 65536)) : Bool) with
    | true =>
      replace h := ite_t hb_7 h
      refine Runs.cond_t (by kernel_rfl) ?_
      refine Runs.seq ?_
      refine Runs.seq ?_
      refine Runs.ops ?_
      refine RunAt.chunk 3 [⟨.d (.int .i64 r_4.2), []⟩, ⟨.d (.bool (r_4.2 != 8)), []⟩, ⟨.d (.bool (r_4.2 != 8)), []⟩] (by kernel_rfl) ?_
      cases hb_8 : ((r_4.2 != 8) : Bool) with
      | true =>
        replace h := ite_t hb_8 h
        refine RunAt.chunk 4 [⟨.tup [], []⟩, ⟨.tup [], []⟩, ⟨.tup [], []⟩, ⟨.d (.bool true), []⟩] (by kernel_rfl) ?_
        refine RunAt.done (by kernel_rfl) ?_
        refine kS_nrm ?_
        refine Runs.cond_t (by kernel_rfl) ?_
        refine Runs.seq ?_
        refine Runs.ops ?_
        refine RunAt.chunk 1 [⟨.d (.bool false), []⟩] (by kernel_rfl) ?_
        refine RunAt.done (by kernel_rfl) ?_
        refine kS_nrm ?_
        refine Runs.ret ?_
        refine kS_ret ?_
        refine kS_ret ?_
        refine kB_ret ?_
        refine kS_ret ?_
        obtain rfl := Option.some.inj h
        exact ⟨nofun, rfl, (by kernel_rfl)⟩
      | false =>
        replace h := ite_f hb_8 h
        refine RunAt.chunk 1 [⟨.d (.sl (List.map Comb.d r_4.1)), []⟩] (by kernel_rfl) ?_
        refine RunAt.cut (some 157) .lenL [] none [.d (.sl (List.map Comb.d r_4.1))] (.d (.int .i64 (r_4.1.length : Int))) [] (by kernel_rfl) (by kernel_rfl) (by kernel_rfl) (cut_len _) ?_
        refine RunAt.chunk 2 [⟨.d (.bool ((r_4.1.length : Int) != 0)), []⟩, ⟨.d (.bool ((r_4.1.length : Int) != 0)), []⟩] (by kernel_rfl) ?_
        refine RunAt.done (by kernel_rfl) ?_
        refine kS_nrm ?_
        cases hb_9 : (((r_4.1.length : Int) != 0) : Bool) with
        | true =>
          replace h := ite_t hb_9 h
          refine Runs.cond_t (by kernel_rfl) ?_
          refine Runs.seq ?_
          refine Runs.ops ?_
          refine RunAt.chunk 1 [⟨.d (.bool false), []⟩] (by kernel_rfl) ?_
          refine RunAt.done (by kernel_rfl) ?_
          refine kS_nrm ?_
          refine Runs.ret ?_
          refine kS_ret ?_
          refine kS_ret ?_
          refine kB_ret ?_
          refine kS_ret ?_
          obtain rfl := Option.some.inj h
          exact ⟨nofun, rfl, (by kernel_rfl)⟩
        | false =>
          replace h := ite_f hb_9 h
          refine Runs.cond_f (by kernel_rfl) ?_
          refine Runs.skip ?_
          refine kS_nrm ?_
          refine Runs.exit ?_
          refine kS_exit ?_
          refine kB_hit ?_
          refine kS_nrm ?_
          refine Runs.ops ?_
          refine RunAt.chunk 3 [⟨.d (.int .i64 i7), []⟩, ⟨.d (.int .i64 (IntKind.wrap .i64 (i7 + 1))), []⟩, ⟨.d (.int .i64 (IntKind.wrap .i64 (i7 + 1))), []⟩] (by kernel_rfl) ?_
          refine RunAt.done (by kernel_rfl) ?_
          obtain rfl := Option.some.inj h
          exact ⟨rfl, v_28, (Canon.same (by kernel_rfl) (Canon.nil (by kernel_rfl)))⟩
    | false =>
      replace h := ite_f hb_7 h
      refine Runs.cond_f (by kernel_rfl) ?_
      refine Runs.skip ?_
      refine kS_nrm ?_
      refine Runs.canon (hansomlaw40_CombAdds_h72 d8 b_28 l0 names1 m5 i7 name10 class11 at12 off14 r_4.1 r_4.2 v_28) (Canon.nil (by kernel_rfl)) ?_
      exact hansomlaw40_CombAdds_j72_ok l_ names_ d8 b_28 l0 names1 m5 i7 name10 class11 at12 off14 r_4.1 r_4.2 v_28 r h
  | false =>
    replace h := ite_f hb_6 h
    refine RunAt.chunk 6 [⟨.tup [], []⟩, ⟨.tup [], []⟩, ⟨.tup [], []⟩, ⟨.tup [], []⟩, ⟨.tup [], []⟩, ⟨.d (.bool false), []⟩] (by kernel_rfl) ?_
    refine RunAt.done (by kernel_rfl) ?_
    refine kS_nrm ?_
    refine Runs.cond_f (by kernel_rfl) ?_
    refine Runs.skip ?_
    refine kS_nrm ?_
    refine Runs.canon (hansomlaw40_CombAdds_h72 d8 b_28 l0 names1 m5 i7 name10 class11 at12 off14 r_4.1 r_4.2 v_28) (Canon.nil (by kernel_rfl)) ?_
    exact hansomlaw40_CombAdds_j72_ok l_ names_ d8 b_28 l0 names1 m5 i7 name10 class11 at12 off14 r_4.1 r_4.2 v_28 r h
theorem hansomlaw40_CombAdds_j25_ok (l_ : (List SegDef)) (names_ : (List Int)) (d8 : SegDef) (b_28 : (List SegDef)) (l0 : (List SegDef)) (names1 : (List Int)) (m5 : (List Comb)) (i7 : Int) (n9 : Int) (v_28 : Nat) (r : (Lp ((List SegDef) × (List Comb) × Int) (Bool ⊕ ((List SegDef) × (List Comb))))) (h : hansomlaw40_CombAdds_j25 d8 b_28 l0 names1 m5 i7 n9 = some r) : Runs L F13b25 (hansomlaw40_CombAdds_h25 d8 b_28 l0 names1 m5 i7 n9 v_28) (kB 1 (kS L F13c123 (LQ [.frz 5] [0, 1, 5, 6, 7] [[28]] (fun (x : ((List SegDef) × (List Comb) × Int)) (g : Nat) => hansomlaw40_CombAdds_h8 x.1 l0 names1 x.2.1 x.2.2 g) (hansomlaw40_CombAdds_P8 l_ names_ l0 names1) r))) := by
  unfold hansomlaw40_CombAdds_j25 at h
  refine Runs.seq ?_
  refine Runs.ops ?_
  refine RunAt.chunk 3 [⟨.ref [53] 0 0 (List.map D.str ([([65] : List UInt8), ([66] : List UInt8)] : List (List UInt8))).length 1, [([53], some (.arr (List.map D.str ([([65] : List UInt8), ([66] : List UInt8)] : List (List UInt8))) 0 false))]⟩, ⟨.d (.int .i64 n9), []⟩, ⟨.d (.int .i64 (bitsOp .and .i64 n9 1)), []⟩] (by kernel_rfl) ?_
  obtain ⟨z_3, hz_3, h⟩ := bind_s h
  refine RunAt.cut (some 56) (.iaddrS 1) [] none [.ref [53] 0 0 (List.map D.str ([([65] : List UInt8), ([66] : List UInt8)] : List (List UInt8))).length 1, .d (.int .i64 (bitsOp .and .i64 n9 1))] (.eref [53] 0 (0 + ((bitsOp .and .i64 n9 1)).toNat) 0) [] (by kernel_rfl) (by kernel_rfl) (by kernel_rfl) (cut_atR (e := D.str) (l := ([([65] : List UInt8), ([66] : List UInt8)] : List (List UInt8))) hz_3 rfl) ?_
  refine RunAt.cut (some 57) (.load none) [[58]] none [.eref [53] 0 (0 + ((bitsOp .and .i64 n9 1)).toNat) 0] (.d (.str z_3)) [] (by kernel_rfl) (by kernel_rfl) (by kernel_rfl) (cut_loadR (e := D.str) (l := ([([65] : List UInt8), ([66] : List UInt8)] : List (List UInt8))) (fz := false) (y := z_3) (by kernel_rfl) hz_3 (by kernel_rfl) (by kernel_rfl)) ?_
  refine RunAt.chunk 3 [⟨.ref [58] 0 0 (List.map D.str ([([88] : List UInt8), ([89] : List UInt8)] : List (List UInt8))).length 1, [([58], some (.arr (List.map D.str ([([88] : List UInt8), ([89] : List UInt8)] : List (List UInt8))) 0 false))]⟩, ⟨.d (.int .i64 n9), []⟩, ⟨.d (.int .i64 (shrI .i64 n9 1)), []⟩] (by kernel_rfl) ?_
  obtain ⟨z_4, hz_4, h⟩ := bind_s h
  refine RunAt.cut (some 61) (.iaddrS 1) [] none [.ref [58] 0 0 (List.map D.str ([([88] : List UInt8), ([89] : List UInt8)] : List (List UInt8))).length 1, .d (.int .i64 (shrI .i64 n9 1))] (.eref [58] 0 (0 + ((shrI .i64 n9 1)).toNat) 0) [] (by kernel_rfl) (by kernel_rfl) (by kernel_rfl) (cut_atR (e := D.str) (l := ([([88] : List UInt8), ([89] : List UInt8)] : List (List UInt8))) hz_4 rfl) ?_
  refine RunAt.cut (some 62) (.load none) [[53]] none [.eref [58] 0 (0 + ((shrI .i64 n9 1)).toNat) 0] (.d (.str z_4)) [] (by kernel_rfl) (by kernel_rfl) (by kernel_rfl) (cut_loadR (e := D.str) (l := ([([88] : List UInt8), ([89] : List UInt8)] : List (List UInt8))) (fz := false) (y := z_4) (by kernel_rfl) hz_4 (by kernel_rfl) (by kernel_rfl)) ?_
  refine RunAt.chunk 2 [⟨.d (.str z_3), []⟩, ⟨.d (.str z_4), []⟩] (by kernel_rfl) ?_
  refine RunAt.done (by kernel_rfl) ?_
  refine kS_nrm ?_
  refine Runs.seq ?_
  refine Runs.ops ?_
  refine RunAt.chunk 1 [⟨.d (.int .i64 (-1)), []⟩] (by kernel_rfl) ?_
  refine RunAt.done (by kernel_rfl) ?_
  refine kS_nrm ?_
  refine Runs.seq ?_
  refine Runs.seq ?_
  refine Runs.ops ?_
  refine RunAt.chunk 1 [⟨.d (.int .i64 0), []⟩] (by kernel_rfl) ?_
  refine RunAt.done (by kernel_rfl) ?_
  refine kS_nrm ?_
  refine Runs.block ?_
  obtain ⟨e_1, he_1, h⟩ := bind_s h
  refine Runs.loop (fun x : (Int × Int) => hansomlaw40_CombAdds_l33 d8 b_28 l0 names1 m5 i7 z_3 z_4 x.1 x.2) (fun (x : (Int × Int)) (g : Nat) => hansomlaw40_CombAdds_h33 d8 b_28 l0 names1 m5 i7 z_3 z_4 x.1 x.2 g) (hansomlaw40_CombAdds_P33 l_ names_ d8 b_28 l0 names1 m5 i7 z_3 z_4) (fun x g r hr => hansomlaw40_CombAdds_l33_ok l_ names_ d8 b_28 l0 names1 m5 i7 z_3 z_4 x.1 x.2 g r hr) v_28 he_1 (Canon.nil (by kernel_rfl)) ?_
  rintro ⟨o, s⟩ hp
  obtain ⟨ho, g_1, hk_1⟩ := hp
  have ho' : o = .exit 2 := ho
  subst ho'
  refine kB_hit ?_
  refine kS_nrm ?_
  refine Runs.canon _ hk_1 ?_
  refine Runs.seq ?_
  refine Runs.ops ?_
  refine RunAt.chunk 1 [⟨.d (.int .i64 0), []⟩] (by kernel_rfl) ?_
  refine RunAt.done (by kernel_rfl) ?_
  refine kS_nrm ?_
  refine Runs.seq ?_
  refine Runs.seq ?_
  refine Runs.ops ?_
  refine RunAt.chunk 3 [⟨.d (.int .i64 e_1), []⟩, ⟨.d (.bool (decide (e_1 ≥ 0))), []⟩, ⟨.d (.bool (decide (e_1 ≥ 0))), []⟩] (by kernel_rfl) ?_
  cases hb_4 : ((decide (e_1 ≥ 0)) : Bool) with
  | true =>
    replace h := ite_t hb_4 h
    refine RunAt.chunk 4 [⟨.ptr [8] 0 1, []⟩, ⟨.d (.int .i64 d8.Combine), []⟩, ⟨.d (.bool (d8.Combine != 6)), []⟩, ⟨.d (.bool (d8.Combine != 6)), []⟩] (by kernel_rfl) ?_
    refine RunAt.done (by kernel_rfl) ?_
    refine kS_nrm ?_
    cases hb_5 : ((d8.Combine != 6) : Bool) with
    | true =>
      replace h := ite_t hb_5 h
      refine Runs.cond_t (by kernel_rfl) ?_
      refine Runs.ops ?_
      refine RunAt.chunk 2 [⟨.d (.sl (List.map Comb.d m5)), []⟩, ⟨.d (.int .i64 e_1), []⟩] (by kernel_rfl) ?_
      obtain ⟨z_5, hz_5, h⟩ := bind_s h
      refine RunAt.cut (some 127) (.iaddrS 8) [] none [.d (.sl (List.map Comb.d m5)), .d (.int .i64 e_1)] (.elt (Comb.d z_5) 0) [] (by kernel_rfl) (by kernel_rfl) (by kernel_rfl) (cut_at hz_5 (fun _ => rfl)) ?_
      refine RunAt.chunk 4 [⟨.elt (Comb.d z_5) 6, []⟩, ⟨.d (.int .i64 z_5.Len), []⟩, ⟨.ptr [8] 0 0, []⟩, ⟨.d (.int .i64 d8.Align), []⟩] (by kernel_rfl) ?_
      obtain ⟨r_2, hr_2, h⟩ := bind_s h
      have hc_2 := hansomlaw40_step_L d8.Align r_2 hr_2
      refine RunAt.cut (some 132) (.callf 50) [] (some []) [.d (.int .i64 d8.Align)] (.d (.int .i64 r_2)) [] (by kernel_rfl) (by kernel_rfl) (by kernel_rfl) (cut_call (call_of (ws := []) (us := []) (by kernel_rfl) (by kernel_rfl) hc_2 (by kernel_rfl) (by kernel_rfl))) ?_
      obtain ⟨r_3, hr_3, h⟩ := bind_s h
      have hc_3 := hansomref01_Up_L z_5.Len r_2 r_3 hr_3
      refine RunAt.cut (some 133) (.callf 43) [] none [.d (.int .i64 z_5.Len), .d (.int .i64 r_2)] (.d (.int .i64 r_3)) [] (by kernel_rfl) (by kernel_rfl) (by kernel_rfl) (cut_call (call_of (ws := []) (us := []) (by kernel_rfl) (by kernel_rfl) hc_3 (by kernel_rfl) (by kernel_rfl))) ?_
      refine RunAt.chunk 1 [⟨.d (.int .i64 r_3), []⟩] (by kernel_rfl) ?_
      refine RunAt.done (by kernel_rfl) ?_
      refine kS_nrm ?_
      refine Runs.canon (hansomlaw40_CombAdds_h56 d8 b_28 l0 names1 m5 i7 z_3 z_4 e_1 r_3 g_1) (Canon.nil (by kernel_rfl)) ?_
      exact hansomlaw40_CombAdds_j56_ok l_ names_ d8 b_28 l0 names1 m5 i7 z_3 z_4 e_1 r_3 g_1 r h
    | false =>
      replace h := ite_f hb_5 h
      refine Runs.cond_f (by kernel_rfl) ?_
      refine Runs.skip ?_
      refine kS_nrm ?_
      refine Runs.canon (hansomlaw40_CombAdds_h56 d8 b_28 l0 names1 m5 i7 z_3 z_4 e_1 0 g_1) (Canon.nil (by kernel_rfl)) ?_
      exact hansomlaw40_CombAdds_j56_ok l_ names_ d8 b_28 l0 names1 m5 i7 z_3 z_4 e_1 0 g_1 r h
  | false =>
    replace h := ite_f hb_4 h
    refine RunAt.chunk 4 [⟨.tup [], []⟩, ⟨.tup [], []⟩, ⟨.tup [], []⟩, ⟨.d (.bool false), []⟩] (by kernel_rfl) ?_
    refine RunAt.done (by kernel_rfl) ?_
    refine kS_nrm ?_
    refine Runs.cond_f (by kernel_rfl) ?_
    refine Runs.skip ?_
    refine kS_nrm ?_
    refine Runs.canon (hansomlaw40_CombAdds_h56 d8 b_28 l0 names1 m5 i7 z_3 z_4 e_1 0 g_1) (Canon.nil (by kernel_rfl)) ?_
    exact hansomlaw40_CombAdds_j56_ok l_ names_ d8 b_28 l0 names1 m5 i7 z_3 z_4 e_1 0 g_1 r h
theorem hansomlaw40_CombAdds_l8_ok (l_ : (List SegDef)) (names_ : (List Int)) (b_28 : (List SegDef)) (l0 : (List SegDef)) (names1 : (List Int)) (m5 : (List Comb)) (i7 : Int) (v_28 : Nat) (r : (Lp ((List SegDef) × (List Comb) × Int) (Bool ⊕ ((List SegDef) × (List Comb))))) (h : hansomlaw40_CombAdds_l8 b_28 l0 names1 m5 i7 = some r) : Runs L F13l8 (hansomlaw40_CombAdds_h8 b_28 l0 names1 m5 i7 v_28) (LQ [.frz 5] [0, 1, 5, 6, 7] [[28]] (fun (x : ((List SegDef) × (List Comb) × Int)) (g : Nat) => hansomlaw40_CombAdds_h8 x.1 l0 names1 x.2.1 x.2.2 g) (hansomlaw40_CombAdds_P8 l_ names_ l0 names1) r) := by
  unfold hansomlaw40_CombAdds_l8 at h
  refine Runs.seq ?_
  refine Runs.seq ?_
  refine Runs.ops ?_
  refine RunAt.chunk 2 [⟨.d (.int .i64 i7), []⟩, ⟨.d (.sl (List.map SegDef.d l0)), []⟩] (by kernel_rfl) ?_
  refine RunAt.cut (some 31) .lenL [] none [.d (.sl (List.map SegDef.d l0))] (.d (.int .i64 (l0.length : Int))) [] (by kernel_rfl) (by kernel_rfl) (by kernel_rfl) (cut_len _) ?_
  refine RunAt.chunk 2 [⟨.d (.bool (decide (i7 < (l0.length : Int)))), []⟩, ⟨.d (.bool (decide (i7 < (l0.length : Int)))), []⟩] (by kernel_rfl) ?_
  cases hb_1 : ((decide (i7 < (l0.length : Int))) : Bool) with
  | true =>
    replace h := ite_t hb_1 h
    refine RunAt.chunk 3 [⟨.d (.int .i64 i7), []⟩, ⟨.d (.bool (decide (i7 < 10))), []⟩, ⟨.d (.bool (decide (i7 < 10))), []⟩] (by kernel_rfl) ?_
    refine RunAt.done (by kernel_rfl) ?_
    refine kS_nrm ?_
    cases hb_2 : ((decide (i7 < 10)) : Bool) with
    | true =>
      replace h := ite_t hb_2 h
      refine Runs.cond_t (by kernel_rfl) ?_
      refine Runs.skip ?_
      refine kS_nrm ?_
      refine Runs.seq ?_
      refine Runs.block ?_
      refine Runs.seq ?_
      refine Runs.ops ?_
      refine RunAt.chunk 2 [⟨.d (.sl (List.map SegDef.d l0)), []⟩, ⟨.d (.int .i64 i7), []⟩] (by kernel_rfl) ?_
      obtain ⟨z_1, hz_1, h⟩ := bind_s h
      refine RunAt.cut (some 41) (.iaddrS 8) [] none [.d (.sl (List.map SegDef.d l0)), .d (.int .i64 i7)] (.elt (SegDef.d z_1) 0) [] (by kernel_rfl) (by kernel_rfl) (by kernel_rfl) (cut_at hz_1 (fun _ => rfl)) ?_
      refine RunAt.chunk 1 [⟨.d (SegDef.d z_1), []⟩] (by kernel_rfl) ?_
      obtain ⟨r_1, hr_1, h⟩ := bind_s h
      have hc_1 := hansomlaw40_near_L z_1 r_1 hr_1
      refine RunAt.cut (some 43) (.callf 49) [] none [.d (SegDef.d z_1)] (.d (SegDef.d r_1)) [] (by kernel_rfl) (by kernel_rfl) (by kernel_rfl) (cut_call (call_of (ws := []) (us := []) (by kernel_rfl) (by kernel_rfl) hc_1 (by kernel_rfl) (by kernel_rfl))) ?_
      refine RunAt.chunk 3 [⟨.ptr [8] 0 0, [([8], some (.cells [.d (.int .i64 0), .d (.int .i64 0), .d (.int .u16 0), .d (.int .u8 0), .d (.int .i64 0), .d (.int .i64 0), .d (.int .i64 0), .d (.int .i64 0)] 0))]⟩, ⟨.tup [], [([8], some (.cells [.d (.int .i64 r_1.Align), .d (.int .i64 r_1.Combine), .d (.int .u16 r_1.Frame), .d (.int .u8 r_1.Offset), .d (.int .i64 r_1.Len), .d (.int .i64 r_1.Name), .d (.int .i64 r_1.Class), .d (.int .i64 r_1.Overlay)] 0))]⟩, ⟨.d (.int .i64 0), []⟩] (by kernel_rfl) ?_
      refine RunAt.done (by kernel_rfl) ?_
      refine kS_nrm ?_
      refine Runs.seq ?_
      refine Runs.seq ?_
      refine Runs.ops ?_
      refine RunAt.chunk 2 [⟨.d (.int .i64 i7), []⟩, ⟨.d (.sl (List.map (D.int .i64) names1)), []⟩] (by kernel_rfl) ?_
      refine RunAt.cut (some 46) .lenL [] none [.d (.sl (List.map (D.int .i64) names1))] (.d (.int .i64 (names1.length : Int))) [] (by kernel_rfl) (by kernel_rfl) (by kernel_rfl) (cut_len _) ?_
      refine RunAt.chunk 1 [⟨.d (.bool (decide (i7 < (names1.length : Int)))), []⟩] (by kernel_rfl) ?_
      refine RunAt.done (by kernel_rfl) ?_
      refine kS_nrm ?_
      cases hb_3 : ((decide (i7 < (names1.length : Int))) : Bool) with
      | true =>
        replace h := ite_t hb_3 h
        refine Runs.cond_t (by kernel_rfl) ?_
        refine Runs.ops ?_
        refine RunAt.chunk 2 [⟨.d (.sl (List.map (D.int .i64) names1)), []⟩, ⟨.d (.int .i64 i7), []⟩] (by kernel_rfl) ?_
        obtain ⟨z_2, hz_2, h⟩ := bind_s h
        refine RunAt.cut (some 50) (.iaddrS 1) [] none [.d (.sl (List.map (D.int .i64) names1)), .d (.int .i64 i7)] (.elt (.int .i64 z_2) 0) [] (by kernel_rfl) (by kernel_rfl) (by kernel_rfl) (cut_at hz_2 (fun _ => rfl)) ?_
        refine RunAt.chunk 3 [⟨.d (.int .i64 z_2), []⟩, ⟨.d (.int .i64 (bitsOp .and .i64 z_2 3)), []⟩, ⟨.d (.int .i64 (bitsOp .and .i64 z_2 3)), []⟩] (by kernel_rfl) ?_
        refine RunAt.done (by kernel_rfl) ?_
        refine kS_nrm ?_
        refine Runs.canon (hansomlaw40_CombAdds_h25 r_1 b_28 l0 names1 m5 i7 (bitsOp .and .i64 z_2 3) v_28) (Canon.nil (by kernel_rfl)) ?_
        exact hansomlaw40_CombAdds_j25_ok l_ names_ r_1 b_28 l0 names1 m5 i7 (bitsOp .and .i64 z_2 3) v_28 r h
      | false =>
        replace h := ite_f hb_3 h
        refine Runs.cond_f (by kernel_rfl) ?_
        refine Runs.skip ?_
        refine kS_nrm ?_
        refine Runs.canon (hansomlaw40_CombAdds_h25 r_1 b_28 l0 names1 m5 i7 0 v_28) (Canon.nil (by kernel_rfl)) ?_
        exact hansomlaw40_CombAdds_j25_ok l_ names_ r_1 b_28 l0 names1 m5 i7 0 v_28 r h
    | false =>
      replace h := ite_f hb_2 h
      refine Runs.cond_f (by kernel_rfl) ?_
      refine Runs.exit ?_
      refine kS_exit ?_
      obtain rfl := Option.some.inj h
      exact ⟨nofun, rfl, v_28, (Canon.nil (by kernel_rfl))⟩
  | false =>
    replace h := ite_f hb_1 h
    refine RunAt.chunk 3 [⟨.tup [], []⟩, ⟨.tup [], []⟩, ⟨.d (.bool false), []⟩] (by kernel_rfl) ?_
    refine RunAt.done (by kernel_rfl) ?_
    refine kS_nrm ?_
    refine Runs.cond_f (by kernel_rfl) ?_
    refine Runs.exit ?_
    refine kS_exit ?_
    obtain rfl := Option.some.inj h
    exact ⟨nofun, rfl, v_28, (Canon.nil (by kernel_rfl))⟩
theorem hansomlaw40_CombAdds_ok (l_ : (List SegDef)) (names_ : (List Int)) (r : Bool) (h : hansomlaw40_CombAdds l_ names_ = some r) : Runs L F13.body ⟨tmOf [.d (.sl (List.map SegDef.d l_)), .d (.sl (List.map (D.int .i64) names_))] 0, updW (fun _ => none) []⟩ (hansomlaw40_CombAdds_Q l_ names_ r) := by
  unfold hansomlaw40_CombAdds at h
  refine Runs.seq ?_
  refine Runs.ops ?_
  refine RunAt.chunk 1 [⟨.d (.bool false), []⟩] (by kernel_rfl) ?_
  refine RunAt.done (by kernel_rfl) ?_
  refine kS_nrm ?_
  refine Runs.seq ?_
  refine Runs.ops ?_
  refine RunAt.chunk 4 [⟨.ref [27] 0 0 (List.map Comb.d ([] : List Comb)).length 8, [([27], some (.arr (List.map Comb.d ([] : List Comb)) 0 false))]⟩, ⟨.ref [28] 0 0 (List.map SegDef.d ([] : List SegDef)).length 8, [([28], some (.arr (List.map SegDef.d ([] : List SegDef)) 0 false))]⟩, ⟨.ref [27] 0 0 (List.map Comb.d ([] : List Comb)).length 8, []⟩, ⟨.ref [28] 0 0 (List.map SegDef.d ([] : List SegDef)).length 8, []⟩] (by kernel_rfl) ?_
  refine RunAt.done (by kernel_rfl) ?_
  refine kS_nrm ?_
  refine Runs.seq ?_
  refine Runs.seq ?_
  refine Runs.ops ?_
  refine RunAt.chunk 1 [⟨.d (.int .i64 0), []⟩] (by kernel_rfl) ?_
  refine RunAt.done (by kernel_rfl) ?_
  refine kS_nrm ?_
  refine Runs.block ?_
  obtain ⟨e_1, he_1, h⟩ := bind_s h
  refine Runs.loop (fun x : ((List SegDef) × (List Comb) × Int) => hansomlaw40_CombAdds_l8 x.1 l_ names_ x.2.1 x.2.2) (fun (x : ((List SegDef) × (List Comb) × Int)) (g : Nat) => hansomlaw40_CombAdds_h8 x.1 l_ names_ x.2.1 x.2.2 g) (hansomlaw40_CombAdds_P8 l_ names_ l_ names_) (fun x g r hr => hansomlaw40_CombAdds_l8_ok l_ names_ x.1 l_ names_ x.2.1 x.2.2 g r hr) 0 he_1 (Canon.cons (frz_ref (e := Comb.d) (l := ([] : List Comb)) (id := [27]) (v := 0) (n := 8) (fz := false) (by kernel_rfl) (by kernel_rfl) rfl) (Canon.nil (by kernel_rfl))) ?_
  rintro ⟨o, s⟩ hp
  cases e_1 with
  | inl e_2 =>
    obtain ⟨ho, hf⟩ := hp
    have ho' : o = .ret := ho
    subst ho'
    refine kB_ret ?_
    refine kS_ret ?_
    obtain rfl := Option.some.inj h
    exact ⟨Out.ret_ne, hf⟩
  | inr e_3 =>
    obtain ⟨ho, g_1, hk_1⟩ := hp
    have ho' : o = .exit 0 := ho
    subst ho'
    refine kB_hit ?_
    refine kS_nrm ?_
    refine Runs.canon _ hk_1 ?_
    refine Runs.seq ?_
    refine Runs.ops ?_
    refine RunAt.chunk 1 [⟨.d (.sl (List.map Comb.d e_3.2)), []⟩] (by kernel_rfl) ?_
    obtain ⟨r_1, hr_1, h⟩ := bind_s h
    have hc_1 := comb_Find_L e_3.2 8 1 r_1 hr_1
    refine RunAt.cut (some 301) (.callf 52) [] none [.d (.sl (List.map Comb.d e_3.2)), .d (.int .i64 8), .d (.int .i64 1)] (.tup [.d (.int .i64 r_1.1), .d (.int .i64 r_1.2.1), .d (.bool r_1.2.2)]) [] (by kernel_rfl) (by kernel_rfl) (by kernel_rfl) (cut_call (call_of (ws := []) (us := []) (by kernel_rfl) (by kernel_rfl) hc_1 (by kernel_rfl) (by kernel_rfl))) ?_
    refine RunAt.chunk 7 [⟨.tup [.d (.int .i64 r_1.1), .d (.int .i64 r_1.2.1), .d (.bool r_1.2.2)], []⟩, ⟨.d (.int .i64 r_1.1), []⟩, ⟨.d (.int .i64 r_1.2.1), []⟩, ⟨.d (.bool r_1.2.2), []⟩, ⟨.d (.int .i64 r_1.1), []⟩, ⟨.d (.int .i64 r_1.2.1), []⟩, ⟨.d (.bool r_1.2.2), []⟩] (by kernel_rfl) ?_
    refine RunAt.done (by kernel_rfl) ?_
    refine kS_nrm ?_
    refine Runs.seq ?_
    refine Runs.ops ?_
    obtain ⟨r_2, hr_2, h⟩ := bind_s h
    have hc_2 := hansomlaw40_awake_L r_2 hr_2
    refine RunAt.cut (some 305) (.callf 53) [] none [] (.d (.bool r_2)) [] (by kernel_rfl) (by kernel_rfl) (by kernel_rfl) (cut_call (call_of (ws := []) (us := []) (by kernel_rfl) (by kernel_rfl) hc_2 (by kernel_rfl) (by kernel_rfl))) ?_
    refine RunAt.chunk 1 [⟨.d (.bool r_2), []⟩] (by kernel_rfl) ?_
    cases hb_1 : (r_2 : Bool) with
    | true =>
      replace h := ite_t hb_1 h
      refine RunAt.chunk 4 [⟨.d (.bool r_1.2.2), []⟩, ⟨.d (.bool (!r_1.2.2)), []⟩, ⟨.d (.bool (!r_1.2.2)), []⟩, ⟨.d (.bool (!r_1.2.2)), []⟩] (by kernel_rfl) ?_
      cases hb_2 : ((!r_1.2.2) : Bool) with
      | true =>
        replace h := ite_t hb_2 h
        refine RunAt.chunk 1 [⟨.ref [28] g_1 0 (List.map SegDef.d e_3.1).length 8, []⟩] (by kernel_rfl) ?_
        refine RunAt.cut (some 312) .lenL [] none [.ref [28] g_1 0 (List.map SegDef.d e_3.1).length 8] (.d (.int .i64 (e_3.1.length : Int))) [] (by kernel_rfl) (by kernel_rfl) (by kernel_rfl) (cut_lenR (e := SegDef.d) e_3.1 rfl) ?_
        refine RunAt.chunk 1 [⟨.d (.sl (List.map Comb.d e_3.2)), []⟩] (by kernel_rfl) ?_
        refine RunAt.cut (some 314) .lenL [] none [.d (.sl (List.map Comb.d e_3.2))] (.d (.int .i64 (e_3.2.length : Int))) [] (by kernel_rfl) (by kernel_rfl) (by kernel_rfl) (cut_len _) ?_
        refine RunAt.chunk 3 [⟨.d (.bool (decide ((e_3.1.length : Int) ≥ (e_3.2.length : Int)))), []⟩, ⟨.d (.bool (decide ((e_3.1.length : Int) ≥ (e_3.2.length : Int)))), []⟩, ⟨.d (.bool (decide ((e_3.1.length : Int) ≥ (e_3.2.length : Int)))), []⟩] (by kernel_rfl) ?_
        refine RunAt.done (by kernel_rfl) ?_
        refine kS_nrm ?_
        refine Runs.ret ?_
        obtain rfl := Option.some.inj h
        exact ⟨Out.ret_ne, (by kernel_rfl)⟩
      | false =>
        replace h := ite_f hb_2 h
        refine RunAt.chunk 7 [⟨.tup [], []⟩, ⟨.tup [], []⟩, ⟨.tup [], []⟩, ⟨.tup [], []⟩, ⟨.tup [], []⟩, ⟨.d (.bool false), []⟩, ⟨.d (.bool false), []⟩] (by kernel_rfl) ?_
        refine RunAt.done (by kernel_rfl) ?_
        refine kS_nrm ?_
        refine Runs.ret ?_
        obtain rfl := Option.some.inj h
        exact ⟨Out.ret_ne, (by kernel_rfl)⟩
    | false =>
      replace h := ite_f hb_1 h
      refine RunAt.chunk 11 [⟨.tup [], []⟩, ⟨.tup [], []⟩, ⟨.d (.bool false), []⟩, ⟨.d (.bool false), []⟩, ⟨.tup [], []⟩, ⟨.tup [], []⟩, ⟨.tup [], []⟩, ⟨.tup [], []⟩, ⟨.tup [], []⟩, ⟨.d (.bool false), []⟩, ⟨.d (.bool false), []⟩] (by kernel_rfl) ?_
      refine RunAt.done (by kernel_rfl) ?_
      refine kS_nrm ?_
      refine Runs.ret ?_
      obtain rfl := Option.some.inj h
      exact ⟨Out.ret_ne, (by kernel_rfl)⟩
theorem hansomlaw40_CombAdds_L (l_ : (List SegDef)) (names_ : (List Int)) (r : Bool) (h : hansomlaw40_CombAdds l_ names_ = some r) : L 13 [.d (.sl (List.map SegDef.d l_)), .d (.sl (List.map (D.int .i64) names_))] = some (.d (.bool r), [.d (.sl (List.map SegDef.d l_)), .d (.sl (List.map (D.int .i64) names_))]) := by
  obtain ⟨p, ⟨hne, hf⟩, hr⟩ := hansomlaw40_CombAdds_ok l_ names_ r h
  obtain ⟨k, hk⟩ := run_of (F := F13) (args := [.d (.sl (List.map SegDef.d l_)), .d (.sl (List.map (D.int .i64) names_))]) (ap := [.d (.sl (List.map SegDef.d l_)), .d (.sl (List.map (D.int .i64) names_))]) (bx0 := updW (fun _ => none) []) rfl rfl (by kernel_rfl) ⟨p, ⟨hne, hf⟩, hr⟩
  exact lim_run (k := k) rfl hk
def omf_in_Q (n_ : Int) (many_ : Int) (r : Bool) (p : Out × St) : Prop := (∀ i, p.1 ≠ .exit i) ∧ finF F82 [.d (.int .i64 n_), .d (.int .i64 many_)] p.2 = some (.d (.bool r), [.d (.int .i64 n_), .d (.int .i64 many_)])
theorem omf_in_ok (n_ : Int) (many_ : Int) (r : Bool) (h : omf_in n_ many_ = some r) : Runs L F82.body ⟨tmOf [.d (.int .i64 n_), .d (.int .i64 many_)] 0, updW (fun _ => none) []⟩ (omf_in_Q n_ many_ r) := by
  unfold omf_in at h
  refine Runs.seq ?_
  refine Runs.ops ?_
  refine RunAt.chunk 1 [⟨.d (.bool false), []⟩] (by kernel_rfl) ?_
  refine RunAt.done (by kernel_rfl) ?_
  refine kS_nrm ?_
  refine Runs.seq ?_
  refine Runs.ops ?_
  refine RunAt.chunk 3 [⟨.d (.int .i64 n_), []⟩, ⟨.d (.bool (decide (n_ ≥ 1))), []⟩, ⟨.d (.bool (decide (n_ ≥ 1))), []⟩] (by kernel_rfl) ?_
  cases hb_1 : ((decide (n_ ≥ 1)) : Bool) with
  | true =>
    replace h := ite_t hb_1 h
    refine RunAt.chunk 5 [⟨.d (.int .i64 n_), []⟩, ⟨.d (.int .i64 many_), []⟩, ⟨.d (.bool (decide (n_ ≤ many_))), []⟩, ⟨.d (.bool (decide (n_ ≤ many_))), []⟩, ⟨.d (.bool (decide (n_ ≤ many_))), []⟩] (by kernel_rfl) ?_
    refine RunAt.done (by kernel_rfl) ?_
    refine kS_nrm ?_
    refine Runs.ret ?_
    obtain rfl := Option.some.inj h
    exact ⟨Out.ret_ne, (by kernel_rfl)⟩
  | false =>
    replace h := ite_f hb_1 h
    refine RunAt.chunk 5 [⟨.tup [], []⟩, ⟨.tup [], []⟩, ⟨.tup [], []⟩, ⟨.d (.bool false), []⟩, ⟨.d (.bool false), []⟩] (by kernel_rfl) ?_
    refine RunAt.done (by kernel_rfl) ?_
    refine kS_nrm ?_
    refine Runs.ret ?_
    obtain rfl := Option.some.inj h
    exact ⟨Out.ret_ne, (by kernel_rfl)⟩
theorem omf_in_L (n_ : Int) (many_ : Int) (r : Bool) (h : omf_in n_ many_ = some r) : L 82 [.d (.int .i64 n_), .d (.int .i64 many_)] = some (.d (.bool r), [.d (.int .i64 n_), .d (.int .i64 many_)]) := by
  obtain ⟨p, ⟨hne, hf⟩, hr⟩ := omf_in_ok n_ many_ r h
  obtain ⟨k, hk⟩ := run_of (F := F82) (args := [.d (.int .i64 n_), .d (.int .i64 many_)]) (ap := [.d (.int .i64 n_), .d (.int .i64 many_)]) (bx0 := updW (fun _ => none) []) rfl rfl (by kernel_rfl) ⟨p, ⟨hne, hf⟩, hr⟩
  exact lim_run (k := k) rfl hk
def omf_Name_Q (m_ : Module) (n_ : Int) (r : (List UInt8)) (p : Out × St) : Prop := (∀ i, p.1 ≠ .exit i) ∧ finF F77 [.d (Module.d m_), .d (.int .i64 n_)] p.2 = some (.d (.str r), [.d (Module.d m_), .d (.int .i64 n_)])
theorem omf_Name_ok (m_ : Module) (n_ : Int) (r : (List UInt8)) (h : omf_Name m_ n_ = some r) : Runs L F77.body ⟨tmOf [.d (Module.d m_), .d (.int .i64 n_)] 0, updW (fun _ => none) []⟩ (omf_Name_Q m_ n_ r) := by
  unfold omf_Name at h
  refine Runs.seq ?_
  refine Runs.ops ?_
  refine RunAt.chunk 2 [⟨.ptr [2] 0 0, [([2], some (.cells [.d (.str m_.Name), .d (.sl (List.map Comment.d m_.Notes)), .d (.sl (List.map D.str m_.Names)), .d (.sl (List.map SegDef.d m_.Segs)), .d (.sl (List.map GrpDef.d m_.Groups)), .d (.sl (List.map Ext.d m_.Exts)), .d (.sl (List.map Pub.d m_.Pubs)), .d (.sl (List.map Data.d m_.Datas)), .d (.bool m_.Main), .d (.bool m_.Is), .d (.int .i64 m_.Start.At), .d (.int .i64 m_.Start.Loc), .d (.bool m_.Start.Self), .d (.int .i64 m_.Start.Frame), .d (.int .i64 m_.Start.FrameN), .d (.int .i64 m_.Start.Target), .d (.int .i64 m_.Start.N), .d (.int .u16 m_.Start.Disp)] 0))]⟩, ⟨.d (.str ([] : List UInt8)), []⟩] (by kernel_rfl) ?_
  refine RunAt.done (by kernel_rfl) ?_
  refine kS_nrm ?_
  refine Runs.seq ?_
  refine Runs.seq ?_
  refine Runs.ops ?_
  refine RunAt.chunk 3 [⟨.d (.int .i64 n_), []⟩, ⟨.ptr [2] 0 2, []⟩, ⟨.d (.sl (List.map D.str m_.Names)), []⟩] (by kernel_rfl) ?_
  refine RunAt.cut (some 8) .lenL [] none [.d (.sl (List.map D.str m_.Names))] (.d (.int .i64 (m_.Names.length : Int))) [] (by kernel_rfl) (by kernel_rfl) (by kernel_rfl) (cut_len _) ?_
  obtain ⟨r_1, hr_1, h⟩ := bind_s h
  have hc_1 := omf_in_L n_ (m_.Names.length : Int) r_1 hr_1
  refine RunAt.cut (some 9) (.callf 82) [] none [.d (.int .i64 n_), .d (.int .i64 (m_.Names.length : Int))] (.d (.bool r_1)) [] (by kernel_rfl) (by kernel_rfl) (by kernel_rfl) (cut_call (call_of (ws := []) (us := []) (by kernel_rfl) (by kernel_rfl) hc_1 (by kernel_rfl) (by kernel_rfl))) ?_
  refine RunAt.chunk 1 [⟨.d (.bool (!r_1)), []⟩] (by kernel_rfl) ?_
  refine RunAt.done (by kernel_rfl) ?_
  refine kS_nrm ?_
  cases hb_1 : ((!r_1) : Bool) with
  | true =>
    replace h := ite_t hb_1 h
    refine Runs.cond_t (by kernel_rfl) ?_
    refine Runs.seq ?_
    refine Runs.ops ?_
    refine RunAt.chunk 1 [⟨.d (.str ([] : List UInt8)), []⟩] (by kernel_rfl) ?_
    refine RunAt.done (by kernel_rfl) ?_
    refine kS_nrm ?_
    refine Runs.ret ?_
    refine kS_ret ?_
    obtain rfl := Option.some.inj h
    exact ⟨Out.ret_ne, (by kernel_rfl)⟩
  | false =>
    replace h := ite_f hb_1 h
    refine Runs.cond_f (by kernel_rfl) ?_
    refine Runs.skip ?_
    refine kS_nrm ?_
    refine Runs.seq ?_
    refine Runs.ops ?_
    refine RunAt.chunk 4 [⟨.ptr [2] 0 2, []⟩, ⟨.d (.sl (List.map D.str m_.Names)), []⟩, ⟨.d (.int .i64 n_), []⟩, ⟨.d (.int .i64 (IntKind.wrap .i64 (n_ - 1))), []⟩] (by kernel_rfl) ?_
    obtain ⟨z_1, hz_1, h⟩ := bind_s h
    refine RunAt.cut (some 15) (.iaddrS 1) [] none [.d (.sl (List.map D.str m_.Names)), .d (.int .i64 (IntKind.wrap .i64 (n_ - 1)))] (.elt (.str z_1) 0) [] (by kernel_rfl) (by kernel_rfl) (by kernel_rfl) (cut_at hz_1 (fun _ => rfl)) ?_
    refine RunAt.chunk 2 [⟨.d (.str z_1), []⟩, ⟨.d (.str z_1), []⟩] (by kernel_rfl) ?_
    refine RunAt.done (by kernel_rfl) ?_
    refine kS_nrm ?_
    refine Runs.ret ?_
    obtain rfl := Option.some.inj h
    exact ⟨Out.ret_ne, (by kernel_rfl)⟩
theorem omf_Name_L (m_ : Module) (n_ : Int) (r : (List UInt8)) (h : omf_Name m_ n_ = some r) : L 77 [.d (Module.d m_), .d (.int .i64 n_)] = some (.d (.str r), [.d (Module.d m_), .d (.int .i64 n_)]) := by
  obtain ⟨p, ⟨hne, hf⟩, hr⟩ := omf_Name_ok m_ n_ r h
  obtain ⟨k, hk⟩ := run_of (F := F77) (args := [.d (Module.d m_), .d (.int .i64 n_)]) (ap := [.d (Module.d m_), .d (.int .i64 n_)]) (bx0 := updW (fun _ => none) []) rfl rfl (by kernel_rfl) ⟨p, ⟨hne, hf⟩, hr⟩
  exact lim_run (k := k) rfl hk
def comb_made_h6 (l0 : (List Comb)) (t12 : (List Ext)) (t13 : Int) (t14 : Int) : St := ⟨tab [(0, .d (.sl (List.map Comb.d l0))), (12, .d (.sl (List.map Ext.d t12))), (13, .d (.int .i64 t13)), (14, .d (.int .i64 t14))], tabB []⟩
def comb_made_h29 (d8 : SegDef) (l0 : (List Comb)) (k6 : Int) (name9 : (List UInt8)) (class10 : (List UInt8)) (t12 : (List Ext)) (t13 : Int) (t14 : Int) : St := ⟨tab [(0, .d (.sl (List.map Comb.d l0))), (6, .d (.int .i64 k6)), (8, .ptr [8] 0 0), (9, .d (.str name9)), (10, .d (.str class10)), (12, .d (.sl (List.map Ext.d t12))), (13, .d (.int .i64 t13)), (14, .d (.int .i64 t14))], tabB [([8], some (.cells [.d (.int .i64 d8.Align), .d (.int .i64 d8.Combine), .d (.int .u16 d8.Frame), .d (.int .u8 d8.Offset), .d (.int .i64 d8.Len), .d (.int .i64 d8.Name), .d (.int .i64 d8.Class), .d (.int .i64 d8.Overlay)] 0))]⟩
def comb_made_h49 (l0 : (List Comb)) : St := ⟨tab [(0, .d (.sl (List.map Comb.d l0)))], tabB []⟩
def comb_made_Q (l_ : (List Comb)) (exts_ : (List Ext)) (r : ((List Comb) × Int)) (p : Out × St) : Prop := (∀ i, p.1 ≠ .exit i) ∧ finF F78 [.d (.sl (List.map Comb.d l_)), .d (.sl (List.map Ext.d exts_))] p.2 = some (.tup [.d (.sl (List.map Comb.d r.1)), .d (.int .i64 r.2)], [.d (.sl (List.map Comb.d l_)), .d (.sl (List.map Ext.d exts_))])
def comb_made_P6 (l_ : (List Comb)) (exts_ : (List Ext)) (t12 : (List Ext)) (t13 : Int) (e : (((List Comb) × Int) ⊕ (List Comb))) (p : Out × St) : Prop := match e with
  | .inl x => p.1 = .ret ∧ finF F78 [.d (.sl (List.map Comb.d l_)), .d (.sl (List.map Ext.d exts_))] p.2 = some (.tup [.d (.sl (List.map Comb.d x.1)), .d (.int .i64 x.2)], [.d (.sl (List.map Comb.d l_)), .d (.sl (List.map Ext.d exts_))])
  | .inr x => p.1 = .exit 0 ∧ ∃ g : Unit, Canon [] [0] [] p.2 (comb_made_h49 x)
theorem comb_made_j29_ok (l_ : (List Comb)) (exts_ : (List Ext)) (d8 : SegDef) (l0 : (List Comb)) (k6 : Int) (name9 : (List UInt8)) (class10 : (List UInt8)) (t12 : (List Ext)) (t13 : Int) (t14 : Int) (r : (Lp ((List Comb) × Int) (((List Comb) × Int) ⊕ (List Comb)))) (h : comb_made_j29 d8 l0 k6 name9 class10 t12 t13 t14 = some r) : Runs L F78b29 (comb_made_h29 d8 l0 k6 name9 class10 t12 t13 t14) (kB 1 (kS L F78c48 (LQ [] [0, 12, 13, 14] [] (fun (x : ((List Comb) × Int)) (g : Unit) => comb_made_h6 x.1 t12 t13 x.2) (comb_made_P6 l_ exts_ t12 t13) r))) := by
  unfold comb_made_j29 at h
  refine Runs.seq ?_
  refine Runs.seq ?_
  refine Runs.ops ?_
  refine RunAt.chunk 3 [⟨.ptr [8] 0 4, []⟩, ⟨.d (.int .i64 d8.Len), []⟩, ⟨.d (.bool (decide (d8.Len > 65536))), []⟩] (by kernel_rfl) ?_
  refine RunAt.done (by kernel_rfl) ?_
  refine kS_nrm ?_
  cases hb_3 : ((decide (d8.Len > 65536)) : Bool) with
  | true =>
    replace h := ite_t hb_3 h
    refine Runs.cond_t (by kernel_rfl) ?_
    refine Runs.seq ?_
    refine Runs.ops ?_
    refine RunAt.chunk 2 [⟨.nils, []⟩, ⟨.d (.int .i64 8), []⟩] (by kernel_rfl) ?_
    refine RunAt.done (by kernel_rfl) ?_
    refine kS_nrm ?_
    refine Runs.seq ?_
    refine Runs.gcons (frz_nil Comb.d (by kernel_rfl)) ?_
    refine Runs.gnil ?_
    refine kS_nrm ?_
    refine Runs.ret ?_
    refine kS_ret ?_
    refine kB_ret ?_
    refine kS_ret ?_
    obtain rfl := Option.some.inj h
    exact ⟨nofun, rfl, (by kernel_rfl)⟩
  | false =>
    replace h := ite_f hb_3 h
    refine Runs.cond_f (by kernel_rfl) ?_
    refine Runs.skip ?_
    refine kS_nrm ?_
    refine Runs.seq ?_
    refine Runs.ops ?_
    refine RunAt.chunk 1 [⟨.d (.int .i64 0), []⟩] (by kernel_rfl) ?_
    refine RunAt.done (by kernel_rfl) ?_
    refine kS_nrm ?_
    refine Runs.seq ?_
    refine Runs.ops ?_
    refine RunAt.chunk 5 [⟨.d (.sl (List.map Comb.d l0)), []⟩, ⟨.d (.str name9), []⟩, ⟨.d (.str class10), []⟩, ⟨.d (SegDef.d d8), []⟩, ⟨.d (.int .i64 k6), []⟩] (by kernel_rfl) ?_
    obtain ⟨r_1, hr_1, h⟩ := bind_s h
    have hc_1 := comb_Add_L l0 name9 class10 d8 (-1) k6 r_1 hr_1
    refine RunAt.cut (some 37) (.callf 51) [] none [.d (.sl (List.map Comb.d l0)), .d (.str name9), .d (.str class10), .d (SegDef.d d8), .d (.int .i64 (-1)), .d (.int .i64 k6)] (.tup [.d (.sl (List.map Comb.d r_1.1)), .d (.int .i64 r_1.2)]) [] (by kernel_rfl) (by kernel_rfl) (by kernel_rfl) (cut_call (call_of (ws := []) (us := []) (by kernel_rfl) (by kernel_rfl) hc_1 (by kernel_rfl) (by kernel_rfl))) ?_
    refine RunAt.chunk 5 [⟨.tup [.d (.sl (List.map Comb.d r_1.1)), .d (.int .i64 r_1.2)], []⟩, ⟨.d (.sl (List.map Comb.d r_1.1)), []⟩, ⟨.d (.int .i64 r_1.2), []⟩, ⟨.d (.sl (List.map Comb.d r_1.1)), []⟩, ⟨.d (.int .i64 r_1.2), []⟩] (by kernel_rfl) ?_
    refine RunAt.done (by kernel_rfl) ?_
    refine kS_nrm ?_
    refine Runs.seq ?_
    refine Runs.ops ?_
    refine RunAt.chunk 2 [⟨.d (.int .i64 r_1.2), []⟩, ⟨.d (.bool (r_1.2 != 0)), []⟩] (by kernel_rfl) ?_
    refine RunAt.done (by kernel_rfl) ?_
    refine kS_nrm ?_
    cases hb_4 : ((r_1.2 != 0) : Bool) with
    | true =>
      replace h := ite_t hb_4 h
      refine Runs.cond_t (by kernel_rfl) ?_
      refine Runs.seq ?_
      refine Runs.ops ?_
      refine RunAt.chunk 3 [⟨.d (.int .i64 r_1.2), []⟩, ⟨.nils, []⟩, ⟨.d (.int .i64 r_1.2), []⟩] (by kernel_rfl) ?_
      refine RunAt.done (by kernel_rfl) ?_
      refine kS_nrm ?_
      refine Runs.seq ?_
      refine Runs.gcons (frz_nil Comb.d (by kernel_rfl)) ?_
      refine Runs.gnil ?_
      refine kS_nrm ?_
      refine Runs.ret ?_
      refine kB_ret ?_
      refine kS_ret ?_
      obtain rfl := Option.some.inj h
      exact ⟨nofun, rfl, (by kernel_rfl)⟩
    | false =>
      replace h := ite_f hb_4 h
      refine Runs.cond_f (by kernel_rfl) ?_
      refine Runs.skip ?_
      refine kB_nrm ?_
      refine kS_nrm ?_
      refine Runs.ops ?_
      refine RunAt.chunk 2 [⟨.d (.int .i64 (IntKind.wrap .i64 (t14 + 1))), []⟩, ⟨.d (.int .i64 (IntKind.wrap .i64 (t14 + 1))), []⟩] (by kernel_rfl) ?_
      refine RunAt.done (by kernel_rfl) ?_
      obtain rfl := Option.some.inj h
      exact ⟨rfl, (), (Canon.nil (by kernel_rfl))⟩
theorem comb_made_l6_ok (l_ : (List Comb)) (exts_ : (List Ext)) (l0 : (List Comb)) (t12 : (List Ext)) (t13 : Int) (t14 : Int) (r : (Lp ((List Comb) × Int) (((List Comb) × Int) ⊕ (List Comb)))) (h : comb_made_l6 l0 t12 t13 t14 = some r) : Runs L F78l6 (comb_made_h6 l0 t12 t13 t14) (LQ [] [0, 12, 13, 14] [] (fun (x : ((List Comb) × Int)) (g : Unit) => comb_made_h6 x.1 t12 t13 x.2) (comb_made_P6 l_ exts_ t12 t13) r) := by
  unfold comb_made_l6 at h
  refine Runs.seq ?_
  refine Runs.ops ?_
  refine RunAt.chunk 1 [⟨.d (.bool (decide (t14 < t13))), []⟩] (by kernel_rfl) ?_
  refine RunAt.done (by kernel_rfl) ?_
  refine kS_nrm ?_
  refine Runs.seq ?_
  cases hb_1 : ((decide (t14 < t13)) : Bool) with
  | true =>
    replace h := ite_t hb_1 h
    refine Runs.cond_t (by kernel_rfl) ?_
    refine Runs.skip ?_
    refine kS_nrm ?_
    refine Runs.seq ?_
    refine Runs.block ?_
    refine Runs.seq ?_
    refine Runs.ops ?_
    refine RunAt.chunk 1 [⟨.d (.int .i64 t14), []⟩] (by kernel_rfl) ?_
    obtain ⟨z_1, hz_1, h⟩ := bind_s h
    refine RunAt.cut (some 17) (.iaddrS 3) [] none [.d (.sl (List.map Ext.d t12)), .d (.int .i64 t14)] (.elt (Ext.d z_1) 0) [] (by kernel_rfl) (by kernel_rfl) (by kernel_rfl) (cut_at hz_1 (fun _ => rfl)) ?_
    refine RunAt.chunk 4 [⟨.d (Ext.d z_1), []⟩, ⟨.ptr [7] 0 0, [([7], some (.cells [.d (.str []), .d (.int .i64 0), .d (.int .u32 0)] 0))]⟩, ⟨.d (.int .i64 t14), []⟩, ⟨.tup [], [([7], some (.cells [.d (.str z_1.Name), .d (.int .i64 z_1.Com), .d (.int .u32 z_1.Len)] 0))]⟩] (by kernel_rfl) ?_
    refine RunAt.done (by kernel_rfl) ?_
    refine kS_nrm ?_
    refine Runs.seq ?_
    refine Runs.ops ?_
    refine RunAt.chunk 6 [⟨.ptr [7] 0 2, []⟩, ⟨.d (.int .u32 z_1.Len), []⟩, ⟨.d (.int .i64 (IntKind.wrap .i64 z_1.Len)), []⟩, ⟨.d (.agg [.int .i64 2, .int .i64 2, .int .u16 0, .int .u8 0, .int .i64 (IntKind.wrap .i64 z_1.Len), .int .i64 0, .int .i64 0, .int .i64 0]), []⟩, ⟨.ptr [8] 0 0, [([8], some (.cells [.d (.int .i64 0), .d (.int .i64 0), .d (.int .u16 0), .d (.int .u8 0), .d (.int .i64 0), .d (.int .i64 0), .d (.int .i64 0), .d (.int .i64 0)] 0))]⟩, ⟨.tup [], [([8], some (.cells [.d (.int .i64 2), .d (.int .i64 2), .d (.int .u16 0), .d (.int .u8 0), .d (.int .i64 (IntKind.wrap .i64 z_1.Len)), .d (.int .i64 0), .d (.int .i64 0), .d (.int .i64 0)] 0))]⟩] (by kernel_rfl) ?_
    refine RunAt.done (by kernel_rfl) ?_
    refine kS_nrm ?_
    refine Runs.seq ?_
    refine Runs.ops ?_
    refine RunAt.chunk 2 [⟨.d (.str ([67, 95, 67, 79, 77, 77, 79, 78] : List UInt8)), []⟩, ⟨.d (.str ([66, 83, 83] : List UInt8)), []⟩] (by kernel_rfl) ?_
    refine RunAt.done (by kernel_rfl) ?_
    refine kS_nrm ?_
    refine Runs.seq ?_
    refine Runs.seq ?_
    refine Runs.ops ?_
    refine RunAt.chunk 3 [⟨.ptr [7] 0 1, []⟩, ⟨.d (.int .i64 z_1.Com), []⟩, ⟨.d (.bool (z_1.Com == 97)), []⟩] (by kernel_rfl) ?_
    refine RunAt.done (by kernel_rfl) ?_
    refine kS_nrm ?_
    cases hb_2 : ((z_1.Com == 97) : Bool) with
    | true =>
      replace h := ite_t hb_2 h
      refine Runs.cond_t (by kernel_rfl) ?_
      refine Runs.seq ?_
      refine Runs.ops ?_
      refine RunAt.chunk 4 [⟨.ptr [8] 0 0, []⟩, ⟨.tup [], [([8], some (.cells [.d (.int .i64 3), .d (.int .i64 2), .d (.int .u16 0), .d (.int .u8 0), .d (.int .i64 (IntKind.wrap .i64 z_1.Len)), .d (.int .i64 0), .d (.int .i64 0), .d (.int .i64 0)] 0))]⟩, ⟨.ptr [8] 0 1, []⟩, ⟨.tup [], [([8], some (.cells [.d (.int .i64 3), .d (.int .i64 0), .d (.int .u16 0), .d (.int .u8 0), .d (.int .i64 (IntKind.wrap .i64 z_1.Len)), .d (.int .i64 0), .d (.int .i64 0), .d (.int .i64 0)] 0))]⟩] (by kernel_rfl) ?_
      refine RunAt.done (by kernel_rfl) ?_
      refine kS_nrm ?_
      refine Runs.ops ?_
      refine RunAt.chunk 2 [⟨.d (.str ([70, 65, 82, 95, 67, 79, 77, 77, 79, 78] : List UInt8)), []⟩, ⟨.d (.str ([70, 65, 82, 95, 66, 83, 83] : List UInt8)), []⟩] (by kernel_rfl) ?_
      refine RunAt.done (by kernel_rfl) ?_
      refine kS_nrm ?_
      refine Runs.canon (comb_made_h29 ({ Align := 3, Combine := 0, Frame := 0, Offset := 0, Len := (IntKind.wrap .i64 z_1.Len), Name := 0, Class := 0, Overlay := 0 } : SegDef) l0 t14 ([70, 65, 82, 95, 67, 79, 77, 77, 79, 78] : List UInt8) ([70, 65, 82, 95, 66, 83, 83] : List UInt8) t12 t13 t14) (Canon.nil (by kernel_rfl)) ?_
      exact comb_made_j29_ok l_ exts_ ({ Align := 3, Combine := 0, Frame := 0, Offset := 0, Len := (IntKind.wrap .i64 z_1.Len), Name := 0, Class := 0, Overlay := 0 } : SegDef) l0 t14 ([70, 65, 82, 95, 67, 79, 77, 77, 79, 78] : List UInt8) ([70, 65, 82, 95, 66, 83, 83] : List UInt8) t12 t13 t14 r h
    | false =>
      replace h := ite_f hb_2 h
      refine Runs.cond_f (by kernel_rfl) ?_
      refine Runs.skip ?_
      refine kS_nrm ?_
      refine Runs.canon (comb_made_h29 ({ Align := 2, Combine := 2, Frame := 0, Offset := 0, Len := (IntKind.wrap .i64 z_1.Len), Name := 0, Class := 0, Overlay := 0 } : SegDef) l0 t14 ([67, 95, 67, 79, 77, 77, 79, 78] : List UInt8) ([66, 83, 83] : List UInt8) t12 t13 t14) (Canon.nil (by kernel_rfl)) ?_
      exact comb_made_j29_ok l_ exts_ ({ Align := 2, Combine := 2, Frame := 0, Offset := 0, Len := (IntKind.wrap .i64 z_1.Len), Name := 0, Class := 0, Overlay := 0 } : SegDef) l0 t14 ([67, 95, 67, 79, 77, 77, 79, 78] : List UInt8) ([66, 83, 83] : List UInt8) t12 t13 t14 r h
  | false =>
    replace h := ite_f hb_1 h
    refine Runs.cond_f (by kernel_rfl) ?_
    refine Runs.exit ?_
    refine kS_exit ?_
    obtain rfl := Option.some.inj h
    exact ⟨nofun, rfl, (), (Canon.nil (by kernel_rfl))⟩
theorem comb_made_ok (l_ : (List Comb)) (exts_ : (List Ext)) (r : ((List Comb) × Int)) (h : comb_made l_ exts_ = some r) : Runs L F78.body ⟨tmOf [.d (.sl (List.map Comb.d l_)), .d (.sl (List.map Ext.d exts_))] 0, updW (fun _ => none) []⟩ (comb_made_Q l_ exts_ r) := by
  unfold comb_made at h
  refine Runs.seq ?_
  refine Runs.ops ?_
  refine RunAt.chunk 2 [⟨.nils, []⟩, ⟨.d (.int .i64 0), []⟩] (by kernel_rfl) ?_
  refine RunAt.done (by kernel_rfl) ?_
  refine kS_nrm ?_
  refine Runs.seq ?_
  refine Runs.seq ?_
  refine Runs.ops ?_
  refine RunAt.chunk 1 [⟨.d (.sl (List.map Ext.d exts_)), []⟩] (by kernel_rfl) ?_
  refine RunAt.cut (some 13) .lenL [] none [.d (.sl (List.map Ext.d exts_))] (.d (.int .i64 (exts_.length : Int))) [] (by kernel_rfl) (by kernel_rfl) (by kernel_rfl) (cut_len _) ?_
  refine RunAt.chunk 1 [⟨.d (.int .i64 0), []⟩] (by kernel_rfl) ?_
  refine RunAt.done (by kernel_rfl) ?_
  refine kS_nrm ?_
  refine Runs.block ?_
  obtain ⟨e_1, he_1, h⟩ := bind_s h
  refine Runs.loop (fun x : ((List Comb) × Int) => comb_made_l6 x.1 exts_ (exts_.length : Int) x.2) (fun (x : ((List Comb) × Int)) (g : Unit) => comb_made_h6 x.1 exts_ (exts_.length : Int) x.2) (comb_made_P6 l_ exts_ exts_ (exts_.length : Int)) (fun x g r hr => comb_made_l6_ok l_ exts_ x.1 exts_ (exts_.length : Int) x.2  r hr) () he_1 (Canon.nil (by kernel_rfl)) ?_
  rintro ⟨o, s⟩ hp
  cases e_1 with
  | inl e_2 =>
    obtain ⟨ho, hf⟩ := hp
    have ho' : o = .ret := ho
    subst ho'
    refine kB_ret ?_
    refine kS_ret ?_
    obtain rfl := Option.some.inj h
    exact ⟨Out.ret_ne, hf⟩
  | inr e_3 =>
    obtain ⟨ho, g_1, hk_1⟩ := hp
    have ho' : o = .exit 0 := ho
    subst ho'
    refine kB_hit ?_
    refine kS_nrm ?_
    refine Runs.canon _ hk_1 ?_
    refine Runs.seq ?_
    refine Runs.ops ?_
    refine RunAt.chunk 3 [⟨.d (.sl (List.map Comb.d e_3)), []⟩, ⟨.d (.sl (List.map Comb.d e_3)), []⟩, ⟨.d (.int .i64 0), []⟩] (by kernel_rfl) ?_
    refine RunAt.done (by kernel_rfl) ?_
    refine kS_nrm ?_
    refine Runs.ret ?_
    obtain rfl := Option.some.inj h
    exact ⟨Out.ret_ne, (by kernel_rfl)⟩
theorem comb_made_L (l_ : (List Comb)) (exts_ : (List Ext)) (r : ((List Comb) × Int)) (h : comb_made l_ exts_ = some r) : L 78 [.d (.sl (List.map Comb.d l_)), .d (.sl (List.map Ext.d exts_))] = some (.tup [.d (.sl (List.map Comb.d r.1)), .d (.int .i64 r.2)], [.d (.sl (List.map Comb.d l_)), .d (.sl (List.map Ext.d exts_))]) := by
  obtain ⟨p, ⟨hne, hf⟩, hr⟩ := comb_made_ok l_ exts_ r h
  obtain ⟨k, hk⟩ := run_of (F := F78) (args := [.d (.sl (List.map Comb.d l_)), .d (.sl (List.map Ext.d exts_))]) (ap := [.d (.sl (List.map Comb.d l_)), .d (.sl (List.map Ext.d exts_))]) (bx0 := updW (fun _ => none) []) rfl rfl (by kernel_rfl) ⟨p, ⟨hne, hf⟩, hr⟩
  exact lim_run (k := k) rfl hk
def comb_All_h8 (exts1 : (List Ext)) (out6 : (List Comb)) (t12 : (List Module)) (t13 : Int) (t14 : Int) : St := ⟨tab [(1, .d (.sl (List.map Ext.d exts1))), (6, .d (.sl (List.map Comb.d out6))), (12, .d (.sl (List.map Module.d t12))), (13, .d (.int .i64 t13)), (14, .d (.int .i64 t14))], tabB []⟩
def comb_All_h22 (m8 : Module) (exts1 : (List Ext)) (out6 : (List Comb)) (i7 : Int) (t12 : (List Module)) (t13 : Int) (t14 : Int) (t20 : (List SegDef)) (t21 : Int) (t22 : Int) : St := ⟨tab [(1, .d (.sl (List.map Ext.d exts1))), (6, .d (.sl (List.map Comb.d out6))), (7, .d (.int .i64 i7)), (8, .ptr [8] 0 0), (12, .d (.sl (List.map Module.d t12))), (13, .d (.int .i64 t13)), (14, .d (.int .i64 t14)), (20, .d (.sl (List.map SegDef.d t20))), (21, .d (.int .i64 t21)), (22, .d (.int .i64 t22))], tabB [([8], some (.cells [.d (.str m8.Name), .d (.sl (List.map Comment.d m8.Notes)), .d (.sl (List.map D.str m8.Names)), .d (.sl (List.map SegDef.d m8.Segs)), .d (.sl (List.map GrpDef.d m8.Groups)), .d (.sl (List.map Ext.d m8.Exts)), .d (.sl (List.map Pub.d m8.Pubs)), .d (.sl (List.map Data.d m8.Datas)), .d (.bool m8.Main), .d (.bool m8.Is), .d (.int .i64 m8.Start.At), .d (.int .i64 m8.Start.Loc), .d (.bool m8.Start.Self), .d (.int .i64 m8.Start.Frame), .d (.int .i64 m8.Start.FrameN), .d (.int .i64 m8.Start.Target), .d (.int .i64 m8.Start.N), .d (.int .u16 m8.Start.Disp)] 0))]⟩
def comb_All_h45 (exts1 : (List Ext)) (out6 : (List Comb)) (t12 : (List Module)) (t13 : Int) (t14 : Int) : St := ⟨tab [(1, .d (.sl (List.map Ext.d exts1))), (6, .d (.sl (List.map Comb.d out6))), (12, .d (.sl (List.map Module.d t12))), (13, .d (.int .i64 t13)), (14, .d (.int .i64 t14))], tabB []⟩
def comb_All_h46 (exts1 : (List Ext)) (out6 : (List Comb)) : St := ⟨tab [(1, .d (.sl (List.map Ext.d exts1))), (6, .d (.sl (List.map Comb.d out6)))], tabB []⟩
def comb_All_Q (l_ : (List Module)) (exts_ : (List Ext)) (r : ((List Comb) × Int)) (p : Out × St) : Prop := (∀ i, p.1 ≠ .exit i) ∧ finF F54 [.d (.sl (List.map Module.d l_)), .d (.sl (List.map Ext.d exts_))] p.2 = some (.tup [.d (.sl (List.map Comb.d r.1)), .d (.int .i64 r.2)], [.d (.sl (List.map Module.d l_)), .d (.sl (List.map Ext.d exts_))])
def comb_All_P22 (l_ : (List Module)) (exts_ : (List Ext)) (m8 : Module) (exts1 : (List Ext)) (i7 : Int) (t12 : (List Module)) (t13 : Int) (t14 : Int) (t20 : (List SegDef)) (t21 : Int) (e : (((List Comb) × Int) ⊕ (List Comb))) (p : Out × St) : Prop := match e with
  | .inl x => p.1 = .ret ∧ finF F54 [.d (.sl (List.map Module.d l_)), .d (.sl (List.map Ext.d exts_))] p.2 = some (.tup [.d (.sl (List.map Comb.d x.1)), .d (.int .i64 x.2)], [.d (.sl (List.map Module.d l_)), .d (.sl (List.map Ext.d exts_))])
  | .inr x => p.1 = .exit 2 ∧ ∃ g : Unit, Canon [] [1, 6, 12, 13, 14] [] p.2 (comb_All_h45 exts1 x t12 t13 t14)
def comb_All_P8 (l_ : (List Module)) (exts_ : (List Ext)) (exts1 : (List Ext)) (t12 : (List Module)) (t13 : Int) (e : (((List Comb) × Int) ⊕ (List Comb))) (p : Out × St) : Prop := match e with
  | .inl x => p.1 = .ret ∧ finF F54 [.d (.sl (List.map Module.d l_)), .d (.sl (List.map Ext.d exts_))] p.2 = some (.tup [.d (.sl (List.map Comb.d x.1)), .d (.int .i64 x.2)], [.d (.sl (List.map Module.d l_)), .d (.sl (List.map Ext.d exts_))])
  | .inr x => p.1 = .exit 0 ∧ ∃ g : Unit, Canon [] [1, 6] [] p.2 (comb_All_h46 exts1 x)
theorem comb_All_l22_ok (l_ : (List Module)) (exts_ : (List Ext)) (m8 : Module) (exts1 : (List Ext)) (out6 : (List Comb)) (i7 : Int) (t12 : (List Module)) (t13 : Int) (t14 : Int) (t20 : (List SegDef)) (t21 : Int) (t22 : Int) (r : (Lp ((List Comb) × Int) (((List Comb) × Int) ⊕ (List Comb)))) (h : comb_All_l22 m8 exts1 out6 i7 t12 t13 t14 t20 t21 t22 = some r) : Runs L F54l22 (comb_All_h22 m8 exts1 out6 i7 t12 t13 t14 t20 t21 t22) (LQ [] [1, 6, 7, 8, 12, 13, 14, 20, 21, 22] [[8]] (fun (x : ((List Comb) × Int)) (g : Unit) => comb_All_h22 m8 exts1 x.1 i7 t12 t13 t14 t20 t21 x.2) (comb_All_P22 l_ exts_ m8 exts1 i7 t12 t13 t14 t20 t21) r) := by
  unfold comb_All_l22 at h
  refine Runs.seq ?_
  refine Runs.ops ?_
  refine RunAt.chunk 1 [⟨.d (.bool (decide (t22 < t21))), []⟩] (by kernel_rfl) ?_
  refine RunAt.done (by kernel_rfl) ?_
  refine kS_nrm ?_
  refine Runs.seq ?_
  cases hb_2 : ((decide (t22 < t21)) : Bool) with
  | true =>
    replace h := ite_t hb_2 h
    refine Runs.cond_t (by kernel_rfl) ?_
    refine Runs.skip ?_
    refine kS_nrm ?_
    refine Runs.seq ?_
    refine Runs.block ?_
    refine Runs.seq ?_
    refine Runs.ops ?_
    refine RunAt.chunk 1 [⟨.d (.int .i64 t22), []⟩] (by kernel_rfl) ?_
    obtain ⟨z_2, hz_2, h⟩ := bind_s h
    refine RunAt.cut (some 25) (.iaddrS 8) [] none [.d (.sl (List.map SegDef.d t20)), .d (.int .i64 t22)] (.elt (SegDef.d z_2) 0) [] (by kernel_rfl) (by kernel_rfl) (by kernel_rfl) (cut_at hz_2 (fun _ => rfl)) ?_
    refine RunAt.chunk 4 [⟨.d (SegDef.d z_2), []⟩, ⟨.ptr [10] 0 0, [([10], some (.cells [.d (.int .i64 0), .d (.int .i64 0), .d (.int .u16 0), .d (.int .u8 0), .d (.int .i64 0), .d (.int .i64 0), .d (.int .i64 0), .d (.int .i64 0)] 0))]⟩, ⟨.d (.int .i64 t22), []⟩, ⟨.tup [], [([10], some (.cells [.d (.int .i64 z_2.Align), .d (.int .i64 z_2.Combine), .d (.int .u16 z_2.Frame), .d (.int .u8 z_2.Offset), .d (.int .i64 z_2.Len), .d (.int .i64 z_2.Name), .d (.int .i64 z_2.Class), .d (.int .i64 z_2.Overlay)] 0))]⟩] (by kernel_rfl) ?_
    refine RunAt.done (by kernel_rfl) ?_
    refine kS_nrm ?_
    refine Runs.seq ?_
    refine Runs.ops ?_
    refine RunAt.chunk 1 [⟨.d (.int .i64 0), []⟩] (by kernel_rfl) ?_
    refine RunAt.done (by kernel_rfl) ?_
    refine kS_nrm ?_
    refine Runs.seq ?_
    refine Runs.ops ?_
    refine RunAt.chunk 4 [⟨.d (.sl (List.map Comb.d out6)), []⟩, ⟨.d (Module.d m8), []⟩, ⟨.ptr [10] 0 5, []⟩, ⟨.d (.int .i64 z_2.Name), []⟩] (by kernel_rfl) ?_
    obtain ⟨r_1, hr_1, h⟩ := bind_s h
    have hc_1 := omf_Name_L m8 z_2.Name r_1 hr_1
    refine RunAt.cut (some 32) (.callf 77) [] (some []) [.d (Module.d m8), .d (.int .i64 z_2.Name)] (.d (.str r_1)) [] (by kernel_rfl) (by kernel_rfl) (by kernel_rfl) (cut_call (call_of (ws := []) (us := []) (by kernel_rfl) (by kernel_rfl) hc_1 (by kernel_rfl) (by kernel_rfl))) ?_
    refine RunAt.chunk 3 [⟨.d (Module.d m8), []⟩, ⟨.ptr [10] 0 6, []⟩, ⟨.d (.int .i64 z_2.Class), []⟩] (by kernel_rfl) ?_
    obtain ⟨r_2, hr_2, h⟩ := bind_s h
    have hc_2 := omf_Name_L m8 z_2.Class r_2 hr_2
    refine RunAt.cut (some 36) (.callf 77) [] (some []) [.d (Module.d m8), .d (.int .i64 z_2.Class)] (.d (.str r_2)) [] (by kernel_rfl) (by kernel_rfl) (by kernel_rfl) (cut_call (call_of (ws := []) (us := []) (by kernel_rfl) (by kernel_rfl) hc_2 (by kernel_rfl) (by kernel_rfl))) ?_
    refine RunAt.chunk 4 [⟨.d (SegDef.d z_2), []⟩, ⟨.d (.int .i64 i7), []⟩, ⟨.d (.int .i64 t22), []⟩, ⟨.d (.int .i64 (IntKind.wrap .i64 (t22 + 1))), []⟩] (by kernel_rfl) ?_
    obtain ⟨r_3, hr_3, h⟩ := bind_s h
    have hc_3 := comb_Add_L out6 r_1 r_2 z_2 i7 (IntKind.wrap .i64 (t22 + 1)) r_3 hr_3
    refine RunAt.cut (some 41) (.callf 51) [] none [.d (.sl (List.map Comb.d out6)), .d (.str r_1), .d (.str r_2), .d (SegDef.d z_2), .d (.int .i64 i7), .d (.int .i64 (IntKind.wrap .i64 (t22 + 1)))] (.tup [.d (.sl (List.map Comb.d r_3.1)), .d (.int .i64 r_3.2)]) [] (by kernel_rfl) (by kernel_rfl) (by kernel_rfl) (cut_call (call_of (ws := []) (us := []) (by kernel_rfl) (by kernel_rfl) hc_3 (by kernel_rfl) (by kernel_rfl))) ?_
    refine RunAt.chunk 5 [⟨.tup [.d (.sl (List.map Comb.d r_3.1)), .d (.int .i64 r_3.2)], []⟩, ⟨.d (.sl (List.map Comb.d r_3.1)), []⟩, ⟨.d (.int .i64 r_3.2), []⟩, ⟨.d (.sl (List.map Comb.d r_3.1)), []⟩, ⟨.d (.int .i64 r_3.2), []⟩] (by kernel_rfl) ?_
    refine RunAt.done (by kernel_rfl) ?_
    refine kS_nrm ?_
    refine Runs.seq ?_
    refine Runs.ops ?_
    refine RunAt.chunk 2 [⟨.d (.int .i64 r_3.2), []⟩, ⟨.d (.bool (r_3.2 != 0)), []⟩] (by kernel_rfl) ?_
    refine RunAt.done (by kernel_rfl) ?_
    refine kS_nrm ?_
    cases hb_3 : ((r_3.2 != 0) : Bool) with
    | true =>
      replace h := ite_t hb_3 h
      refine Runs.cond_t (by kernel_rfl) ?_
      refine Runs.seq ?_
      refine Runs.ops ?_
      refine RunAt.chunk 3 [⟨.d (.int .i64 r_3.2), []⟩, ⟨.nils, []⟩, ⟨.d (.int .i64 r_3.2), []⟩] (by kernel_rfl) ?_
      refine RunAt.done (by kernel_rfl) ?_
      refine kS_nrm ?_
      refine Runs.seq ?_
      refine Runs.gcons (frz_nil Comb.d (by kernel_rfl)) ?_
      refine Runs.gnil ?_
      refine kS_nrm ?_
      refine Runs.ret ?_
      refine kB_ret ?_
      refine kS_ret ?_
      obtain rfl := Option.some.inj h
      exact ⟨nofun, rfl, (by kernel_rfl)⟩
    | false =>
      replace h := ite_f hb_3 h
      refine Runs.cond_f (by kernel_rfl) ?_
      refine Runs.skip ?_
      refine kB_nrm ?_
      refine kS_nrm ?_
      refine Runs.ops ?_
      refine RunAt.chunk 2 [⟨.d (.int .i64 (IntKind.wrap .i64 (t22 + 1))), []⟩, ⟨.d (.int .i64 (IntKind.wrap .i64 (t22 + 1))), []⟩] (by kernel_rfl) ?_
      refine RunAt.done (by kernel_rfl) ?_
      obtain rfl := Option.some.inj h
      exact ⟨rfl, (), (Canon.nil (by kernel_rfl))⟩
  | false =>
    replace h := ite_f hb_2 h
    refine Runs.cond_f (by kernel_rfl) ?_
    refine Runs.exit ?_
    refine kS_exit ?_
    obtain rfl := Option.some.inj h
    exact ⟨nofun, rfl, (), (Canon.nil (by kernel_rfl))⟩
theorem comb_All_l8_ok (l_ : (List Module)) (exts_ : (List Ext)) (exts1 : (List Ext)) (out6 : (List Comb)) (t12 : (List Module)) (t13 : Int) (t14 : Int) (r : (Lp ((List Comb) × Int) (((List Comb) × Int) ⊕ (List Comb)))) (h : comb_All_l8 exts1 out6 t12 t13 t14 = some r) : Runs L F54l8 (comb_All_h8 exts1 out6 t12 t13 t14) (LQ [.frz 6] [1, 6, 12, 13, 14] [] (fun (x : ((List Comb) × Int)) (g : Unit) => comb_All_h8 exts1 x.1 t12 t13 x.2) (comb_All_P8 l_ exts_ exts1 t12 t13) r) := by
  unfold comb_All_l8 at h
  refine Runs.seq ?_
  refine Runs.ops ?_
  refine RunAt.chunk 1 [⟨.d (.bool (decide (t14 < t13))), []⟩] (by kernel_rfl) ?_
  refine RunAt.done (by kernel_rfl) ?_
  refine kS_nrm ?_
  refine Runs.seq ?_
  cases hb_1 : ((decide (t14 < t13)) : Bool) with
  | true =>
    replace h := ite_t hb_1 h
    refine Runs.cond_t (by kernel_rfl) ?_
    refine Runs.skip ?_
    refine kS_nrm ?_
    refine Runs.seq ?_
    refine Runs.block ?_
    refine Runs.seq ?_
    refine Runs.ops ?_
    refine RunAt.chunk 1 [⟨.d (.int .i64 t14), []⟩] (by kernel_rfl) ?_
    obtain ⟨z_1, hz_1, h⟩ := bind_s h
    refine RunAt.cut (some 17) (.iaddrS 18) [] none [.d (.sl (List.map Module.d t12)), .d (.int .i64 t14)] (.elt (Module.d z_1) 0) [] (by kernel_rfl) (by kernel_rfl) (by kernel_rfl) (cut_at hz_1 (fun _ => rfl)) ?_
    refine RunAt.chunk 4 [⟨.d (Module.d z_1), []⟩, ⟨.ptr [8] 0 0, [([8], some (.cells [.d (.str []), .nils, .nils, .nils, .nils, .nils, .nils, .nils, .d (.bool false), .d (.bool false), .d (.int .i64 0), .d (.int .i64 0), .d (.bool false), .d (.int .i64 0), .d (.int .i64 0), .d (.int .i64 0), .d (.int .i64 0), .d (.int .u16 0)] 0))]⟩, ⟨.d (.int .i64 t14), []⟩, ⟨.tup [], [([8], some (.cells [.d (.str z_1.Name), .d (.sl (List.map Comment.d z_1.Notes)), .d (.sl (List.map D.str z_1.Names)), .d (.sl (List.map SegDef.d z_1.Segs)), .d (.sl (List.map GrpDef.d z_1.Groups)), .d (.sl (List.map Ext.d z_1.Exts)), .d (.sl (List.map Pub.d z_1.Pubs)), .d (.sl (List.map Data.d z_1.Datas)), .d (.bool z_1.Main), .d (.bool z_1.Is), .d (.int .i64 z_1.Start.At), .d (.int .i64 z_1.Start.Loc), .d (.bool z_1.Start.Self), .d (.int .i64 z_1.Start.Frame), .d (.int .i64 z_1.Start.FrameN), .d (.int .i64 z_1.Start.Target), .d (.int .i64 z_1.Start.N), .d (.int .u16 z_1.Start.Disp)] 0))]⟩] (by kernel_rfl) ?_
    refine RunAt.done (by kernel_rfl) ?_
    refine kS_nrm ?_
    refine Runs.seq ?_
    refine Runs.ops ?_
    refine RunAt.chunk 2 [⟨.ptr [8] 0 3, []⟩, ⟨.d (.sl (List.map SegDef.d z_1.Segs)), []⟩] (by kernel_rfl) ?_
    refine RunAt.cut (some 21) .lenL [] none [.d (.sl (List.map SegDef.d z_1.Segs))] (.d (.int .i64 (z_1.Segs.length : Int))) [] (by kernel_rfl) (by kernel_rfl) (by kernel_rfl) (cut_len _) ?_
    refine RunAt.chunk 1 [⟨.d (.int .i64 0), []⟩] (by kernel_rfl) ?_
    refine RunAt.done (by kernel_rfl) ?_
    refine kS_nrm ?_
    refine Runs.block ?_
    obtain ⟨e_1, he_1, h⟩ := bind_s h
    refine Runs.loop (fun x : ((List Comb) × Int) => comb_All_l22 z_1 exts1 x.1 t14 t12 t13 t14 z_1.Segs (z_1.Segs.length : Int) x.2) (fun (x : ((List Comb) × Int)) (g : Unit) => comb_All_h22 z_1 exts1 x.1 t14 t12 t13 t14 z_1.Segs (z_1.Segs.length : Int) x.2) (comb_All_P22 l_ exts_ z_1 exts1 t14 t12 t13 t14 z_1.Segs (z_1.Segs.length : Int)) (fun x g r hr => comb_All_l22_ok l_ exts_ z_1 exts1 x.1 t14 t12 t13 t14 z_1.Segs (z_1.Segs.length : Int) x.2  r hr) () he_1 (Canon.nil (by kernel_rfl)) ?_
    rintro ⟨o, s⟩ hp
    cases e_1 with
    | inl e_2 =>
      obtain ⟨ho, hf⟩ := hp
      have ho' : o = .ret := ho
      subst ho'
      refine kB_ret ?_
      refine kB_ret ?_
      refine kS_ret ?_
      obtain rfl := Option.some.inj h
      exact ⟨nofun, rfl, hf⟩
    | inr e_3 =>
      obtain ⟨ho, g_1, hk_1⟩ := hp
      have ho' : o = .exit 2 := ho
      subst ho'
      refine kB_hit ?_
      refine kB_nrm ?_
      refine kS_nrm ?_
      refine Runs.canon _ hk_1 ?_
      refine Runs.ops ?_
      refine RunAt.chunk 2 [⟨.d (.int .i64 (IntKind.wrap .i64 (t14 + 1))), []⟩, ⟨.d (.int .i64 (IntKind.wrap .i64 (t14 + 1))), []⟩] (by kernel_rfl) ?_
      refine RunAt.done (by kernel_rfl) ?_
      obtain rfl := Option.some.inj h
      exact ⟨rfl, (), (Canon.same (by kernel_rfl) (Canon.nil (by kernel_rfl)))⟩
  | false =>
    replace h := ite_f hb_1 h
    refine Runs.cond_f (by kernel_rfl) ?_
    refine Runs.exit ?_
    refine kS_exit ?_
    obtain rfl := Option.some.inj h
    exact ⟨nofun, rfl, (), (Canon.nil (by kernel_rfl))⟩
theorem comb_All_ok (l_ : (List Module)) (exts_ : (List Ext)) (r : ((List Comb) × Int)) (h : comb_All l_ exts_ = some r) : Runs L F54.body ⟨tmOf [.d (.sl (List.map Module.d l_)), .d (.sl (List.map Ext.d exts_))] 0, updW (fun _ => none) []⟩ (comb_All_Q l_ exts_ r) := by
  unfold comb_All at h
  refine Runs.seq ?_
  refine Runs.ops ?_
  refine RunAt.chunk 2 [⟨.nils, []⟩, ⟨.d (.int .i64 0), []⟩] (by kernel_rfl) ?_
  refine RunAt.done (by kernel_rfl) ?_
  refine kS_nrm ?_
  refine Runs.seq ?_
  refine Runs.ops ?_
  refine RunAt.chunk 1 [⟨.nils, []⟩] (by kernel_rfl) ?_
  refine RunAt.done (by kernel_rfl) ?_
  refine kS_nrm ?_
  refine Runs.seq ?_
  refine Runs.seq ?_
  refine Runs.ops ?_
  refine RunAt.chunk 1 [⟨.d (.sl (List.map Module.d l_)), []⟩] (by kernel_rfl) ?_
  refine RunAt.cut (some 13) .lenL [] none [.d (.sl (List.map Module.d l_))] (.d (.int .i64 (l_.length : Int))) [] (by kernel_rfl) (by kernel_rfl) (by kernel_rfl) (cut_len _) ?_
  refine RunAt.chunk 1 [⟨.d (.int .i64 0), []⟩] (by kernel_rfl) ?_
  refine RunAt.done (by kernel_rfl) ?_
  refine kS_nrm ?_
  refine Runs.block ?_
  obtain ⟨e_1, he_1, h⟩ := bind_s h
  refine Runs.loop (fun x : ((List Comb) × Int) => comb_All_l8 exts_ x.1 l_ (l_.length : Int) x.2) (fun (x : ((List Comb) × Int)) (g : Unit) => comb_All_h8 exts_ x.1 l_ (l_.length : Int) x.2) (comb_All_P8 l_ exts_ exts_ l_ (l_.length : Int)) (fun x g r hr => comb_All_l8_ok l_ exts_ exts_ x.1 l_ (l_.length : Int) x.2  r hr) () he_1 (Canon.cons (frz_nil Comb.d (by kernel_rfl)) (Canon.nil (by kernel_rfl))) ?_
  rintro ⟨o, s⟩ hp
  cases e_1 with
  | inl e_2 =>
    obtain ⟨ho, hf⟩ := hp
    have ho' : o = .ret := ho
    subst ho'
    refine kB_ret ?_
    refine kS_ret ?_
    obtain rfl := Option.some.inj h
    exact ⟨Out.ret_ne, hf⟩
  | inr e_3 =>
    obtain ⟨ho, g_1, hk_1⟩ := hp
    have ho' : o = .exit 0 := ho
    subst ho'
    refine kB_hit ?_
    refine kS_nrm ?_
    refine Runs.canon _ hk_1 ?_
    refine Runs.seq ?_
    refine Runs.ops ?_
    refine RunAt.chunk 2 [⟨.d (.sl (List.map Comb.d e_3)), []⟩, ⟨.d (.sl (List.map Ext.d exts_)), []⟩] (by kernel_rfl) ?_
    obtain ⟨r_1, hr_1, h⟩ := bind_s h
    have hc_1 := comb_made_L e_3 exts_ r_1 hr_1
    refine RunAt.cut (some 51) (.callf 78) [] none [.d (.sl (List.map Comb.d e_3)), .d (.sl (List.map Ext.d exts_))] (.tup [.d (.sl (List.map Comb.d r_1.1)), .d (.int .i64 r_1.2)]) [] (by kernel_rfl) (by kernel_rfl) (by kernel_rfl) (cut_call (call_of (ws := []) (us := []) (by kernel_rfl) (by kernel_rfl) hc_1 (by kernel_rfl) (by kernel_rfl))) ?_
    refine RunAt.chunk 4 [⟨.d (.sl (List.map Comb.d r_1.1)), []⟩, ⟨.d (.int .i64 r_1.2), []⟩, ⟨.d (.sl (List.map Comb.d r_1.1)), []⟩, ⟨.d (.int .i64 r_1.2), []⟩] (by kernel_rfl) ?_
    refine RunAt.done (by kernel_rfl) ?_
    refine kS_nrm ?_
    refine Runs.ret ?_
    obtain rfl := Option.some.inj h
    exact ⟨Out.ret_ne, (by kernel_rfl)⟩
theorem comb_All_L (l_ : (List Module)) (exts_ : (List Ext)) (r : ((List Comb) × Int)) (h : comb_All l_ exts_ = some r) : L 54 [.d (.sl (List.map Module.d l_)), .d (.sl (List.map Ext.d exts_))] = some (.tup [.d (.sl (List.map Comb.d r.1)), .d (.int .i64 r.2)], [.d (.sl (List.map Module.d l_)), .d (.sl (List.map Ext.d exts_))]) := by
  obtain ⟨p, ⟨hne, hf⟩, hr⟩ := comb_All_ok l_ exts_ r h
  obtain ⟨k, hk⟩ := run_of (F := F54) (args := [.d (.sl (List.map Module.d l_)), .d (.sl (List.map Ext.d exts_))]) (ap := [.d (.sl (List.map Module.d l_)), .d (.sl (List.map Ext.d exts_))]) (bx0 := updW (fun _ => none) []) rfl rfl (by kernel_rfl) ⟨p, ⟨hne, hf⟩, hr⟩
  exact lim_run (k := k) rfl hk
def hansomlaw40_CombAll_h8 (b_29 : (List Module)) (l0 : (List Ext)) (many1 : Int) (i6 : Int) (v_29 : Nat) : St := ⟨tab [(0, .d (.sl (List.map Ext.d l0))), (1, .d (.int .i64 many1)), (5, .ref [29] v_29 0 (List.map Module.d b_29).length 18), (6, .d (.int .i64 i6))], tabB [([29], some (.arr (List.map Module.d b_29) v_29 false))]⟩
def hansomlaw40_CombAll_h19 (b_29 : (List Module)) (l0 : (List Ext)) (many1 : Int) (v_29 : Nat) : St := ⟨tab [(0, .d (.sl (List.map Ext.d l0))), (1, .d (.int .i64 many1)), (5, .ref [29] v_29 0 (List.map Module.d b_29).length 18)], tabB [([29], some (.arr (List.map Module.d b_29) v_29 false))]⟩
def hansomlaw40_CombAll_h27 (b_29 : (List Module)) (b_46 : (List Ext)) (l0 : (List Ext)) (many1 : Int) (near8 : Int) (far9 : Int) (i10 : Int) (v_29 : Nat) (v_46 : Nat) : St := ⟨tab [(0, .d (.sl (List.map Ext.d l0))), (1, .d (.int .i64 many1)), (5, .ref [29] v_29 0 (List.map Module.d b_29).length 18), (7, .ref [46] v_46 0 (List.map Ext.d b_46).length 3), (8, .d (.int .i64 near8)), (9, .d (.int .i64 far9)), (10, .d (.int .i64 i10))], tabB [([29], some (.arr (List.map Module.d b_29) v_29 false)), ([46], some (.arr (List.map Ext.d b_46) v_46 false))]⟩
def hansomlaw40_CombAll_h46 (b_29 : (List Module)) (b_46 : (List Ext)) (many1 : Int) (near8 : Int) (far9 : Int) (v_29 : Nat) (v_46 : Nat) : St := ⟨tab [(1, .d (.int .i64 many1)), (5, .ref [29] v_29 0 (List.map Module.d b_29).length 18), (7, .ref [46] v_46 0 (List.map Ext.d b_46).length 3), (8, .d (.int .i64 near8)), (9, .d (.int .i64 far9))], tabB [([29], some (.arr (List.map Module.d b_29) v_29 false)), ([46], some (.arr (List.map Ext.d b_46) v_46 false))]⟩
def hansomlaw40_CombAll_h56 (b_29 : (List Module)) (b_46 : (List Ext)) (many1 : Int) (m12 : (List Comb)) (e13 : Int) (want14 : Int) (v_29 : Nat) (v_46 : Nat) (f_29 : Bool) (f_46 : Bool) : St := ⟨tab [(1, .d (.int .i64 many1)), (5, .ref [29] v_29 0 (List.map Module.d b_29).length 18), (7, .ref [46] v_46 0 (List.map Ext.d b_46).length 3), (12, .d (.sl (List.map Comb.d m12))), (13, .d (.int .i64 e13)), (14, .d (.int .i64 want14))], tabB [([29], some (.arr (List.map Module.d b_29) v_29 f_29)), ([46], some (.arr (List.map Ext.d b_46) v_46 f_46))]⟩
def hansomlaw40_CombAll_h62 (b_29 : (List Module)) (b_46 : (List Ext)) (many1 : Int) (m12 : (List Comb)) (e13 : Int) (want14 : Int) (v_29 : Nat) (v_46 : Nat) (f_29 : Bool) (f_46 : Bool) : St := ⟨tab [(1, .d (.int .i64 many1)), (5, .ref [29] v_29 0 (List.map Module.d b_29).length 18), (7, .ref [46] v_46 0 (List.map Ext.d b_46).length 3), (12, .d (.sl (List.map Comb.d m12))), (13, .d (.int .i64 e13)), (14, .d (.int .i64 want14))], tabB [([29], some (.arr (List.map Module.d b_29) v_29 f_29)), ([46], some (.arr (List.map Ext.d b_46) v_46 f_46))]⟩
def hansomlaw40_CombAll_h76 (b_29 : (List Module)) (b_46 : (List Ext)) (many1 : Int) (m12 : (List Comb)) (sum15 : Int) (i16 : Int) (v_29 : Nat) (v_46 : Nat) (f_29 : Bool) (f_46 : Bool) : St := ⟨tab [(1, .d (.int .i64 many1)), (5, .ref [29] v_29 0 (List.map Module.d b_29).length 18), (7, .ref [46] v_46 0 (List.map Ext.d b_46).length 3), (12, .d (.sl (List.map Comb.d m12))), (15, .d (.int .i64 sum15)), (16, .d (.int .i64 i16))], tabB [([29], some (.arr (List.map Module.d b_29) v_29 f_29)), ([46], some (.arr (List.map Ext.d b_46) v_46 f_46))]⟩
def hansomlaw40_CombAll_h99 (b_46 : (List Ext)) (many1 : Int) (m12 : (List Comb)) (v_46 : Nat) (f_46 : Bool) : St := ⟨tab [(1, .d (.int .i64 many1)), (7, .ref [46] v_46 0 (List.map Ext.d b_46).length 3), (12, .d (.sl (List.map Comb.d m12)))], tabB [([46], some (.arr (List.map Ext.d b_46) v_46 f_46))]⟩
def hansomlaw40_CombAll_h103 (b_46 : (List Ext)) (many1 : Int) (m12 : (List Comb)) (i23 : Int) (v_46 : Nat) (f_46 : Bool) : St := ⟨tab [(1, .d (.int .i64 many1)), (7, .ref [46] v_46 0 (List.map Ext.d b_46).length 3), (12, .d (.sl (List.map Comb.d m12))), (23, .d (.int .i64 i23))], tabB [([46], some (.arr (List.map Ext.d b_46) v_46 f_46))]⟩
def hansomlaw40_CombAll_h122 (many1 : Int) : St := ⟨tab [(1, .d (.int .i64 many1))], tabB []⟩
def hansomlaw40_CombAll_Q (l_ : (List Ext)) (many_ : Int) (r : Bool) (p : Out × St) : Prop := (∀ i, p.1 ≠ .exit i) ∧ finF F14 [.d (.sl (List.map Ext.d l_)), .d (.int .i64 many_)] p.2 = some (.d (.bool r), [.d (.sl (List.map Ext.d l_)), .d (.int .i64 many_)])
def hansomlaw40_CombAll_P8 (l_ : (List Ext)) (many_ : Int) (l0 : (List Ext)) (many1 : Int) (e : (List Module)) (p : Out × St) : Prop := p.1 = .exit 0 ∧ ∃ g : Nat, Canon [] [0, 1, 5] [[29]] p.2 (hansomlaw40_CombAll_h19 e l0 many1 g)
def hansomlaw40_CombAll_P27 (l_ : (List Ext)) (many_ : Int) (b_29 : (List Module)) (l0 : (List Ext)) (many1 : Int) (e : ((List Ext) × Int × Int)) (p : Out × St) : Prop := p.1 = .exit 2 ∧ ∃ g : (Nat × Nat), Canon [] [1, 5, 7, 8, 9] [[29], [46]] p.2 (hansomlaw40_CombAll_h46 b_29 e.1 many1 e.2.1 e.2.2 g.1 g.2)
def hansomlaw40_CombAll_P76 (l_ : (List Ext)) (many_ : Int) (b_29 : (List Module)) (b_46 : (List Ext)) (many1 : Int) (m12 : (List Comb)) (e : (Bool ⊕ Unit)) (p : Out × St) : Prop := match e with
  | .inl x => p.1 = .ret ∧ finF F14 [.d (.sl (List.map Ext.d l_)), .d (.int .i64 many_)] p.2 = some (.d (.bool x), [.d (.sl (List.map Ext.d l_)), .d (.int .i64 many_)])
  | .inr x => p.1 = .exit 4 ∧ ∃ g : (Nat × Bool), Canon [] [1, 7, 12] [[46]] p.2 (hansomlaw40_CombAll_h99 b_46 many1 m12 g.1 g.2)
def hansomlaw40_CombAll_P103 (l_ : (List Ext)) (many_ : Int) (b_46 : (List Ext)) (many1 : Int) (m12 : (List Comb)) (e : (Bool ⊕ Unit)) (p : Out × St) : Prop := match e with
  | .inl x => p.1 = .ret ∧ finF F14 [.d (.sl (List.map Ext.d l_)), .d (.int .i64 many_)] p.2 = some (.d (.bool x), [.d (.sl (List.map Ext.d l_)), .d (.int .i64 many_)])
  | .inr x => p.1 = .exit 6 ∧ ∃ g : Unit, Canon [] [1] [] p.2 (hansomlaw40_CombAll_h122 many1)
end Go.Es.Cmb
