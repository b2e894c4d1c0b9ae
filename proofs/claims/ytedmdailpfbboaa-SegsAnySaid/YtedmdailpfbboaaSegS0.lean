/- The interpreter answers as plain Lean does: part 1. No condition. -/
import Derived.Test.YtedmdailpfbboaaSegF
import Derived.Test.YtedmdailpfbboaaSegP
import Derived.KernelRfl
set_option linter.unusedVariables false
set_option linter.unusedSimpArgs false
set_option maxRecDepth 100000
set_option maxHeartbeats 4000000
namespace Go.Es.Seg
def hansomlaw21_near_h10 (s2 : SegDef) (b_4 : SegDef) (x5 : SegDef) (odd1 : Int) : St := ⟨tab [(1, .d (.int .i64 odd1)), (2, .ptr [2] 0 0), (4, .ptr [4] 0 0), (5, .ptr [5] 0 0)], tabB [([2], some (.cells [.d (.int .i64 s2.Align), .d (.int .i64 s2.Combine), .d (.int .u16 s2.Frame), .d (.int .u8 s2.Offset), .d (.int .i64 s2.Len), .d (.int .i64 s2.Name), .d (.int .i64 s2.Class), .d (.int .i64 s2.Overlay)] 0)), ([4], some (.cells [.d (.int .i64 b_4.Align), .d (.int .i64 b_4.Combine), .d (.int .u16 b_4.Frame), .d (.int .u8 b_4.Offset), .d (.int .i64 b_4.Len), .d (.int .i64 b_4.Name), .d (.int .i64 b_4.Class), .d (.int .i64 b_4.Overlay)] 0)), ([5], some (.cells [.d (.int .i64 x5.Align), .d (.int .i64 x5.Combine), .d (.int .u16 x5.Frame), .d (.int .u8 x5.Offset), .d (.int .i64 x5.Len), .d (.int .i64 x5.Name), .d (.int .i64 x5.Class), .d (.int .i64 x5.Overlay)] 0))]⟩
def hansomlaw21_near_Q (s_ : SegDef) (odd_ : Int) (r : SegDef) (p : Out × St) : Prop := (∀ i, p.1 ≠ .exit i) ∧ finF F56 [.d (SegDef.d s_), .d (.int .i64 odd_)] p.2 = some (.d (SegDef.d r), [.d (SegDef.d s_), .d (.int .i64 odd_)])
theorem hansomlaw21_near_j10_ok (s_ : SegDef) (odd_ : Int) (s2 : SegDef) (b_4 : SegDef) (x5 : SegDef) (odd1 : Int) (r : SegDef) (h : hansomlaw21_near_j10 s2 b_4 x5 odd1 = some r) : Runs L F56b10 (hansomlaw21_near_h10 s2 b_4 x5 odd1) (hansomlaw21_near_Q s_ odd_ r) := by
  unfold hansomlaw21_near_j10 at h
  refine Runs.seq ?_
  refine Runs.seq ?_
  refine Runs.ops ?_
  refine RunAt.chunk 2 [⟨.d (.int .i64 odd1), []⟩, ⟨.d (.int .i64 (bitsOp .and .i64 odd1 15)), []⟩] (by kernel_rfl) ?_
  refine RunAt.done (by kernel_rfl) ?_
  refine kS_nrm ?_
  refine Runs.block ?_
  refine Runs.seq ?_
  refine Runs.ops ?_
  refine RunAt.chunk 2 [⟨.d (.bool ((bitsOp .and .i64 odd1 15) == 0)), []⟩, ⟨.d (.bool ((bitsOp .and .i64 odd1 15) == 0)), []⟩] (by kernel_rfl) ?_
  refine RunAt.done (by kernel_rfl) ?_
  refine kS_nrm ?_
  cases hb_2 : (((bitsOp .and .i64 odd1 15) == 0) : Bool) with
  | true =>
    replace h := ite_t hb_2 h
    refine Runs.cond_t (by kernel_rfl) ?_
    refine Runs.ops ?_
    refine RunAt.chunk 4 [⟨.ptr [2] 0 0, []⟩, ⟨.d (.int .i64 s2.Align), []⟩, ⟨.ptr [5] 0 0, []⟩, ⟨.tup [], [([5], some (.cells [.d (.int .i64 s2.Align), .d (.int .i64 x5.Combine), .d (.int .u16 x5.Frame), .d (.int .u8 x5.Offset), .d (.int .i64 x5.Len), .d (.int .i64 x5.Name), .d (.int .i64 x5.Class), .d (.int .i64 x5.Overlay)] 0))]⟩] (by kernel_rfl) ?_
    refine RunAt.done (by kernel_rfl) ?_
    refine kB_nrm ?_
    refine kS_nrm ?_
    refine Runs.seq ?_
    refine Runs.ops ?_
    refine RunAt.chunk 2 [⟨.d (.agg [.int .i64 s2.Align, .int .i64 x5.Combine, .int .u16 x5.Frame, .int .u8 x5.Offset, .int .i64 x5.Len, .int .i64 x5.Name, .int .i64 x5.Class, .int .i64 x5.Overlay]), []⟩, ⟨.tup [], [([4], some (.cells [.d (.int .i64 s2.Align), .d (.int .i64 x5.Combine), .d (.int .u16 x5.Frame), .d (.int .u8 x5.Offset), .d (.int .i64 x5.Len), .d (.int .i64 x5.Name), .d (.int .i64 x5.Class), .d (.int .i64 x5.Overlay)] 0))]⟩] (by kernel_rfl) ?_
    refine RunAt.done (by kernel_rfl) ?_
    refine kS_nrm ?_
    refine Runs.ret ?_
    obtain rfl := Option.some.inj h
    exact ⟨Out.ret_ne, (by kernel_rfl)⟩
  | false =>
    replace h := ite_f hb_2 h
    refine Runs.cond_f (by kernel_rfl) ?_
    refine Runs.seq ?_
    refine Runs.ops ?_
    refine RunAt.chunk 2 [⟨.d (.bool ((bitsOp .and .i64 odd1 15) == 1)), []⟩, ⟨.d (.bool ((bitsOp .and .i64 odd1 15) == 1)), []⟩] (by kernel_rfl) ?_
    refine RunAt.done (by kernel_rfl) ?_
    refine kS_nrm ?_
    cases hb_3 : (((bitsOp .and .i64 odd1 15) == 1) : Bool) with
    | true =>
      replace h := ite_t hb_3 h
      refine Runs.cond_t (by kernel_rfl) ?_
      refine Runs.ops ?_
      refine RunAt.chunk 4 [⟨.ptr [2] 0 1, []⟩, ⟨.d (.int .i64 s2.Combine), []⟩, ⟨.ptr [5] 0 1, []⟩, ⟨.tup [], [([5], some (.cells [.d (.int .i64 x5.Align), .d (.int .i64 s2.Combine), .d (.int .u16 x5.Frame), .d (.int .u8 x5.Offset), .d (.int .i64 x5.Len), .d (.int .i64 x5.Name), .d (.int .i64 x5.Class), .d (.int .i64 x5.Overlay)] 0))]⟩] (by kernel_rfl) ?_
      refine RunAt.done (by kernel_rfl) ?_
      refine kB_nrm ?_
      refine kS_nrm ?_
      refine Runs.seq ?_
      refine Runs.ops ?_
      refine RunAt.chunk 2 [⟨.d (.agg [.int .i64 x5.Align, .int .i64 s2.Combine, .int .u16 x5.Frame, .int .u8 x5.Offset, .int .i64 x5.Len, .int .i64 x5.Name, .int .i64 x5.Class, .int .i64 x5.Overlay]), []⟩, ⟨.tup [], [([4], some (.cells [.d (.int .i64 x5.Align), .d (.int .i64 s2.Combine), .d (.int .u16 x5.Frame), .d (.int .u8 x5.Offset), .d (.int .i64 x5.Len), .d (.int .i64 x5.Name), .d (.int .i64 x5.Class), .d (.int .i64 x5.Overlay)] 0))]⟩] (by kernel_rfl) ?_
      refine RunAt.done (by kernel_rfl) ?_
      refine kS_nrm ?_
      refine Runs.ret ?_
      obtain rfl := Option.some.inj h
      exact ⟨Out.ret_ne, (by kernel_rfl)⟩
    | false =>
      replace h := ite_f hb_3 h
      refine Runs.cond_f (by kernel_rfl) ?_
      refine Runs.seq ?_
      refine Runs.ops ?_
      refine RunAt.chunk 2 [⟨.d (.bool ((bitsOp .and .i64 odd1 15) == 2)), []⟩, ⟨.d (.bool ((bitsOp .and .i64 odd1 15) == 2)), []⟩] (by kernel_rfl) ?_
      refine RunAt.done (by kernel_rfl) ?_
      refine kS_nrm ?_
      cases hb_4 : (((bitsOp .and .i64 odd1 15) == 2) : Bool) with
      | true =>
        replace h := ite_t hb_4 h
        refine Runs.cond_t (by kernel_rfl) ?_
        refine Runs.ops ?_
        refine RunAt.chunk 4 [⟨.ptr [2] 0 4, []⟩, ⟨.d (.int .i64 s2.Len), []⟩, ⟨.ptr [5] 0 4, []⟩, ⟨.tup [], [([5], some (.cells [.d (.int .i64 x5.Align), .d (.int .i64 x5.Combine), .d (.int .u16 x5.Frame), .d (.int .u8 x5.Offset), .d (.int .i64 s2.Len), .d (.int .i64 x5.Name), .d (.int .i64 x5.Class), .d (.int .i64 x5.Overlay)] 0))]⟩] (by kernel_rfl) ?_
        refine RunAt.done (by kernel_rfl) ?_
        refine kB_nrm ?_
        refine kS_nrm ?_
        refine Runs.seq ?_
        refine Runs.ops ?_
        refine RunAt.chunk 2 [⟨.d (.agg [.int .i64 x5.Align, .int .i64 x5.Combine, .int .u16 x5.Frame, .int .u8 x5.Offset, .int .i64 s2.Len, .int .i64 x5.Name, .int .i64 x5.Class, .int .i64 x5.Overlay]), []⟩, ⟨.tup [], [([4], some (.cells [.d (.int .i64 x5.Align), .d (.int .i64 x5.Combine), .d (.int .u16 x5.Frame), .d (.int .u8 x5.Offset), .d (.int .i64 s2.Len), .d (.int .i64 x5.Name), .d (.int .i64 x5.Class), .d (.int .i64 x5.Overlay)] 0))]⟩] (by kernel_rfl) ?_
        refine RunAt.done (by kernel_rfl) ?_
        refine kS_nrm ?_
        refine Runs.ret ?_
        obtain rfl := Option.some.inj h
        exact ⟨Out.ret_ne, (by kernel_rfl)⟩
      | false =>
        replace h := ite_f hb_4 h
        refine Runs.cond_f (by kernel_rfl) ?_
        refine Runs.seq ?_
        refine Runs.ops ?_
        refine RunAt.chunk 2 [⟨.d (.bool ((bitsOp .and .i64 odd1 15) == 3)), []⟩, ⟨.d (.bool ((bitsOp .and .i64 odd1 15) == 3)), []⟩] (by kernel_rfl) ?_
        refine RunAt.done (by kernel_rfl) ?_
        refine kS_nrm ?_
        cases hb_5 : (((bitsOp .and .i64 odd1 15) == 3) : Bool) with
        | true =>
          replace h := ite_t hb_5 h
          refine Runs.cond_t (by kernel_rfl) ?_
          refine Runs.ops ?_
          refine RunAt.chunk 4 [⟨.ptr [2] 0 5, []⟩, ⟨.d (.int .i64 s2.Name), []⟩, ⟨.ptr [5] 0 5, []⟩, ⟨.tup [], [([5], some (.cells [.d (.int .i64 x5.Align), .d (.int .i64 x5.Combine), .d (.int .u16 x5.Frame), .d (.int .u8 x5.Offset), .d (.int .i64 x5.Len), .d (.int .i64 s2.Name), .d (.int .i64 x5.Class), .d (.int .i64 x5.Overlay)] 0))]⟩] (by kernel_rfl) ?_
          refine RunAt.done (by kernel_rfl) ?_
          refine kB_nrm ?_
          refine kS_nrm ?_
          refine Runs.seq ?_
          refine Runs.ops ?_
          refine RunAt.chunk 2 [⟨.d (.agg [.int .i64 x5.Align, .int .i64 x5.Combine, .int .u16 x5.Frame, .int .u8 x5.Offset, .int .i64 x5.Len, .int .i64 s2.Name, .int .i64 x5.Class, .int .i64 x5.Overlay]), []⟩, ⟨.tup [], [([4], some (.cells [.d (.int .i64 x5.Align), .d (.int .i64 x5.Combine), .d (.int .u16 x5.Frame), .d (.int .u8 x5.Offset), .d (.int .i64 x5.Len), .d (.int .i64 s2.Name), .d (.int .i64 x5.Class), .d (.int .i64 x5.Overlay)] 0))]⟩] (by kernel_rfl) ?_
          refine RunAt.done (by kernel_rfl) ?_
          refine kS_nrm ?_
          refine Runs.ret ?_
          obtain rfl := Option.some.inj h
          exact ⟨Out.ret_ne, (by kernel_rfl)⟩
        | false =>
          replace h := ite_f hb_5 h
          refine Runs.cond_f (by kernel_rfl) ?_
          refine Runs.seq ?_
          refine Runs.ops ?_
          refine RunAt.chunk 2 [⟨.d (.bool ((bitsOp .and .i64 odd1 15) == 4)), []⟩, ⟨.d (.bool ((bitsOp .and .i64 odd1 15) == 4)), []⟩] (by kernel_rfl) ?_
          refine RunAt.done (by kernel_rfl) ?_
          refine kS_nrm ?_
          cases hb_6 : (((bitsOp .and .i64 odd1 15) == 4) : Bool) with
          | true =>
            replace h := ite_t hb_6 h
            refine Runs.cond_t (by kernel_rfl) ?_
            refine Runs.ops ?_
            refine RunAt.chunk 8 [⟨.ptr [2] 0 2, []⟩, ⟨.d (.int .u16 s2.Frame), []⟩, ⟨.ptr [2] 0 3, []⟩, ⟨.d (.int .u8 s2.Offset), []⟩, ⟨.ptr [5] 0 2, []⟩, ⟨.tup [], [([5], some (.cells [.d (.int .i64 x5.Align), .d (.int .i64 x5.Combine), .d (.int .u16 s2.Frame), .d (.int .u8 x5.Offset), .d (.int .i64 x5.Len), .d (.int .i64 x5.Name), .d (.int .i64 x5.Class), .d (.int .i64 x5.Overlay)] 0))]⟩, ⟨.ptr [5] 0 3, []⟩, ⟨.tup [], [([5], some (.cells [.d (.int .i64 x5.Align), .d (.int .i64 x5.Combine), .d (.int .u16 s2.Frame), .d (.int .u8 s2.Offset), .d (.int .i64 x5.Len), .d (.int .i64 x5.Name), .d (.int .i64 x5.Class), .d (.int .i64 x5.Overlay)] 0))]⟩] (by kernel_rfl) ?_
            refine RunAt.done (by kernel_rfl) ?_
            refine kB_nrm ?_
            refine kS_nrm ?_
            refine Runs.seq ?_
            refine Runs.ops ?_
            refine RunAt.chunk 2 [⟨.d (.agg [.int .i64 x5.Align, .int .i64 x5.Combine, .int .u16 s2.Frame, .int .u8 s2.Offset, .int .i64 x5.Len, .int .i64 x5.Name, .int .i64 x5.Class, .int .i64 x5.Overlay]), []⟩, ⟨.tup [], [([4], some (.cells [.d (.int .i64 x5.Align), .d (.int .i64 x5.Combine), .d (.int .u16 s2.Frame), .d (.int .u8 s2.Offset), .d (.int .i64 x5.Len), .d (.int .i64 x5.Name), .d (.int .i64 x5.Class), .d (.int .i64 x5.Overlay)] 0))]⟩] (by kernel_rfl) ?_
            refine RunAt.done (by kernel_rfl) ?_
            refine kS_nrm ?_
            refine Runs.ret ?_
            obtain rfl := Option.some.inj h
            exact ⟨Out.ret_ne, (by kernel_rfl)⟩
          | false =>
            replace h := ite_f hb_6 h
            refine Runs.cond_f (by kernel_rfl) ?_
            refine Runs.seq ?_
            refine Runs.ops ?_
            refine RunAt.chunk 2 [⟨.d (.bool ((bitsOp .and .i64 odd1 15) == 5)), []⟩, ⟨.d (.bool ((bitsOp .and .i64 odd1 15) == 5)), []⟩] (by kernel_rfl) ?_
            refine RunAt.done (by kernel_rfl) ?_
            refine kS_nrm ?_
            cases hb_7 : (((bitsOp .and .i64 odd1 15) == 5) : Bool) with
            | true =>
              replace h := ite_t hb_7 h
              refine Runs.cond_t (by kernel_rfl) ?_
              refine Runs.ops ?_
              refine RunAt.chunk 2 [⟨.ptr [5] 0 4, []⟩, ⟨.tup [], [([5], some (.cells [.d (.int .i64 x5.Align), .d (.int .i64 x5.Combine), .d (.int .u16 x5.Frame), .d (.int .u8 x5.Offset), .d (.int .i64 65536), .d (.int .i64 x5.Name), .d (.int .i64 x5.Class), .d (.int .i64 x5.Overlay)] 0))]⟩] (by kernel_rfl) ?_
              refine RunAt.done (by kernel_rfl) ?_
              refine kB_nrm ?_
              refine kS_nrm ?_
              refine Runs.seq ?_
              refine Runs.ops ?_
              refine RunAt.chunk 2 [⟨.d (.agg [.int .i64 x5.Align, .int .i64 x5.Combine, .int .u16 x5.Frame, .int .u8 x5.Offset, .int .i64 65536, .int .i64 x5.Name, .int .i64 x5.Class, .int .i64 x5.Overlay]), []⟩, ⟨.tup [], [([4], some (.cells [.d (.int .i64 x5.Align), .d (.int .i64 x5.Combine), .d (.int .u16 x5.Frame), .d (.int .u8 x5.Offset), .d (.int .i64 65536), .d (.int .i64 x5.Name), .d (.int .i64 x5.Class), .d (.int .i64 x5.Overlay)] 0))]⟩] (by kernel_rfl) ?_
              refine RunAt.done (by kernel_rfl) ?_
              refine kS_nrm ?_
              refine Runs.ret ?_
              obtain rfl := Option.some.inj h
              exact ⟨Out.ret_ne, (by kernel_rfl)⟩
            | false =>
              replace h := ite_f hb_7 h
              refine Runs.cond_f (by kernel_rfl) ?_
              refine Runs.skip ?_
              refine kB_nrm ?_
              refine kS_nrm ?_
              refine Runs.seq ?_
              refine Runs.ops ?_
              refine RunAt.chunk 2 [⟨.d (SegDef.d x5), []⟩, ⟨.tup [], [([4], some (.cells [.d (.int .i64 x5.Align), .d (.int .i64 x5.Combine), .d (.int .u16 x5.Frame), .d (.int .u8 x5.Offset), .d (.int .i64 x5.Len), .d (.int .i64 x5.Name), .d (.int .i64 x5.Class), .d (.int .i64 x5.Overlay)] 0))]⟩] (by kernel_rfl) ?_
              refine RunAt.done (by kernel_rfl) ?_
              refine kS_nrm ?_
              refine Runs.ret ?_
              obtain rfl := Option.some.inj h
              exact ⟨Out.ret_ne, (by kernel_rfl)⟩
theorem hansomlaw21_near_ok (s_ : SegDef) (odd_ : Int) (r : SegDef) (h : hansomlaw21_near s_ odd_ = some r) : Runs L F56.body ⟨tmOf [.d (SegDef.d s_), .d (.int .i64 odd_)] 0, updW (fun _ => none) []⟩ (hansomlaw21_near_Q s_ odd_ r) := by
  unfold hansomlaw21_near at h
  refine Runs.seq ?_
  refine Runs.ops ?_
  refine RunAt.chunk 2 [⟨.ptr [2] 0 0, [([2], some (.cells [.d (.int .i64 s_.Align), .d (.int .i64 s_.Combine), .d (.int .u16 s_.Frame), .d (.int .u8 s_.Offset), .d (.int .i64 s_.Len), .d (.int .i64 s_.Name), .d (.int .i64 s_.Class), .d (.int .i64 s_.Overlay)] 0))]⟩, ⟨.ptr [4] 0 0, [([4], some (.cells [.d (.int .i64 0), .d (.int .i64 0), .d (.int .u16 0), .d (.int .u8 0), .d (.int .i64 0), .d (.int .i64 0), .d (.int .i64 0), .d (.int .i64 0)] 0))]⟩] (by kernel_rfl) ?_
  refine RunAt.done (by kernel_rfl) ?_
  refine kS_nrm ?_
  refine Runs.seq ?_
  refine Runs.ops ?_
  refine RunAt.chunk 8 [⟨.ptr [2] 0 0, []⟩, ⟨.d (.int .i64 s_.Align), []⟩, ⟨.d (.int .i64 (bitsOp .and .i64 s_.Align 255)), []⟩, ⟨.d (.int .i64 (Int.tmod (bitsOp .and .i64 s_.Align 255) 5)), []⟩, ⟨.ref [10] 0 0 (List.map (D.int .i64) ([0, 2, 5, 6] : List Int)).length 1, [([10], some (.arr (List.map (D.int .i64) ([0, 2, 5, 6] : List Int)) 0 false))]⟩, ⟨.ptr [2] 0 1, []⟩, ⟨.d (.int .i64 s_.Combine), []⟩, ⟨.d (.int .i64 (bitsOp .and .i64 s_.Combine 3)), []⟩] (by kernel_rfl) ?_
  obtain ⟨z_1, hz_1, h⟩ := bind_s h
  refine RunAt.cut (some 14) (.iaddrS 1) [] none [.ref [10] 0 0 (List.map (D.int .i64) ([0, 2, 5, 6] : List Int)).length 1, .d (.int .i64 (bitsOp .and .i64 s_.Combine 3))] (.eref [10] 0 (0 + ((bitsOp .and .i64 s_.Combine 3)).toNat) 0) [] (by kernel_rfl) (by kernel_rfl) (by kernel_rfl) (cut_atR (e := (D.int .i64)) (l := ([0, 2, 5, 6] : List Int)) hz_1 rfl) ?_
  refine RunAt.cut (some 15) (.load none) [[5]] none [.eref [10] 0 (0 + ((bitsOp .and .i64 s_.Combine 3)).toNat) 0] (.d (.int .i64 z_1)) [] (by kernel_rfl) (by kernel_rfl) (by kernel_rfl) (cut_loadR (e := (D.int .i64)) (l := ([0, 2, 5, 6] : List Int)) (fz := false) (y := z_1) (by kernel_rfl) hz_1 (by kernel_rfl) (by kernel_rfl)) ?_
  refine RunAt.chunk 16 [⟨.ptr [2] 0 4, []⟩, ⟨.d (.int .i64 s_.Len), []⟩, ⟨.d (.int .i64 (bitsOp .and .i64 s_.Len 131071)), []⟩, ⟨.d (.int .i64 (Int.tmod (bitsOp .and .i64 s_.Len 131071) 65537)), []⟩, ⟨.ptr [2] 0 5, []⟩, ⟨.d (.int .i64 s_.Name), []⟩, ⟨.d (.int .i64 (bitsOp .and .i64 s_.Name 32767)), []⟩, ⟨.ptr [2] 0 6, []⟩, ⟨.d (.int .i64 s_.Class), []⟩, ⟨.d (.int .i64 (bitsOp .and .i64 s_.Class 255)), []⟩, ⟨.ptr [2] 0 7, []⟩, ⟨.d (.int .i64 s_.Overlay), []⟩, ⟨.d (.int .i64 (bitsOp .and .i64 s_.Overlay 255)), []⟩, ⟨.d (.agg [.int .i64 (Int.tmod (bitsOp .and .i64 s_.Align 255) 5), .int .i64 z_1, .int .u16 0, .int .u8 0, .int .i64 (Int.tmod (bitsOp .and .i64 s_.Len 131071) 65537), .int .i64 (bitsOp .and .i64 s_.Name 32767), .int .i64 (bitsOp .and .i64 s_.Class 255), .int .i64 (bitsOp .and .i64 s_.Overlay 255)]), []⟩, ⟨.ptr [5] 0 0, [([5], some (.cells [.d (.int .i64 0), .d (.int .i64 0), .d (.int .u16 0), .d (.int .u8 0), .d (.int .i64 0), .d (.int .i64 0), .d (.int .i64 0), .d (.int .i64 0)] 0))]⟩, ⟨.tup [], [([5], some (.cells [.d (.int .i64 (Int.tmod (bitsOp .and .i64 s_.Align 255) 5)), .d (.int .i64 z_1), .d (.int .u16 0), .d (.int .u8 0), .d (.int .i64 (Int.tmod (bitsOp .and .i64 s_.Len 131071) 65537)), .d (.int .i64 (bitsOp .and .i64 s_.Name 32767)), .d (.int .i64 (bitsOp .and .i64 s_.Class 255)), .d (.int .i64 (bitsOp .and .i64 s_.Overlay 255))] 0))]⟩] (by kernel_rfl) ?_
  refine RunAt.done (by kernel_rfl) ?_
  refine kS_nrm ?_
  refine Runs.seq ?_
  refine Runs.seq ?_
  refine Runs.ops ?_
  refine RunAt.chunk 3 [⟨.ptr [5] 0 0, []⟩, ⟨.d (.int .i64 (Int.tmod (bitsOp .and .i64 s_.Align 255) 5)), []⟩, ⟨.d (.bool ((Int.tmod (bitsOp .and .i64 s_.Align 255) 5) == 0)), []⟩] (by kernel_rfl) ?_
  refine RunAt.done (by kernel_rfl) ?_
  refine kS_nrm ?_
  cases hb_1 : (((Int.tmod (bitsOp .and .i64 s_.Align 255) 5) == 0) : Bool) with
  | true =>
    replace h := ite_t hb_1 h
    refine Runs.cond_t (by kernel_rfl) ?_
    refine Runs.ops ?_
    refine RunAt.chunk 8 [⟨.ptr [2] 0 2, []⟩, ⟨.d (.int .u16 s_.Frame), []⟩, ⟨.ptr [2] 0 3, []⟩, ⟨.d (.int .u8 s_.Offset), []⟩, ⟨.ptr [5] 0 2, []⟩, ⟨.tup [], [([5], some (.cells [.d (.int .i64 (Int.tmod (bitsOp .and .i64 s_.Align 255) 5)), .d (.int .i64 z_1), .d (.int .u16 s_.Frame), .d (.int .u8 0), .d (.int .i64 (Int.tmod (bitsOp .and .i64 s_.Len 131071) 65537)), .d (.int .i64 (bitsOp .and .i64 s_.Name 32767)), .d (.int .i64 (bitsOp .and .i64 s_.Class 255)), .d (.int .i64 (bitsOp .and .i64 s_.Overlay 255))] 0))]⟩, ⟨.ptr [5] 0 3, []⟩, ⟨.tup [], [([5], some (.cells [.d (.int .i64 (Int.tmod (bitsOp .and .i64 s_.Align 255) 5)), .d (.int .i64 z_1), .d (.int .u16 s_.Frame), .d (.int .u8 s_.Offset), .d (.int .i64 (Int.tmod (bitsOp .and .i64 s_.Len 131071) 65537)), .d (.int .i64 (bitsOp .and .i64 s_.Name 32767)), .d (.int .i64 (bitsOp .and .i64 s_.Class 255)), .d (.int .i64 (bitsOp .and .i64 s_.Overlay 255))] 0))]⟩] (by kernel_rfl) ?_
    refine RunAt.done (by kernel_rfl) ?_
    refine kS_nrm ?_
    refine Runs.canon (hansomlaw21_near_h10 s_ ({ Align := 0, Combine := 0, Frame := 0, Offset := 0, Len := 0, Name := 0, Class := 0, Overlay := 0 } : SegDef) ({ Align := (Int.tmod (bitsOp .and .i64 s_.Align 255) 5), Combine := z_1, Frame := s_.Frame, Offset := s_.Offset, Len := (Int.tmod (bitsOp .and .i64 s_.Len 131071) 65537), Name := (bitsOp .and .i64 s_.Name 32767), Class := (bitsOp .and .i64 s_.Class 255), Overlay := (bitsOp .and .i64 s_.Overlay 255) } : SegDef) odd_) (Canon.nil (by kernel_rfl)) ?_
    exact hansomlaw21_near_j10_ok s_ odd_ s_ ({ Align := 0, Combine := 0, Frame := 0, Offset := 0, Len := 0, Name := 0, Class := 0, Overlay := 0 } : SegDef) ({ Align := (Int.tmod (bitsOp .and .i64 s_.Align 255) 5), Combine := z_1, Frame := s_.Frame, Offset := s_.Offset, Len := (Int.tmod (bitsOp .and .i64 s_.Len 131071) 65537), Name := (bitsOp .and .i64 s_.Name 32767), Class := (bitsOp .and .i64 s_.Class 255), Overlay := (bitsOp .and .i64 s_.Overlay 255) } : SegDef) odd_ r h
  | false =>
    replace h := ite_f hb_1 h
    refine Runs.cond_f (by kernel_rfl) ?_
    refine Runs.skip ?_
    refine kS_nrm ?_
    refine Runs.canon (hansomlaw21_near_h10 s_ ({ Align := 0, Combine := 0, Frame := 0, Offset := 0, Len := 0, Name := 0, Class := 0, Overlay := 0 } : SegDef) ({ Align := (Int.tmod (bitsOp .and .i64 s_.Align 255) 5), Combine := z_1, Frame := 0, Offset := 0, Len := (Int.tmod (bitsOp .and .i64 s_.Len 131071) 65537), Name := (bitsOp .and .i64 s_.Name 32767), Class := (bitsOp .and .i64 s_.Class 255), Overlay := (bitsOp .and .i64 s_.Overlay 255) } : SegDef) odd_) (Canon.nil (by kernel_rfl)) ?_
    exact hansomlaw21_near_j10_ok s_ odd_ s_ ({ Align := 0, Combine := 0, Frame := 0, Offset := 0, Len := 0, Name := 0, Class := 0, Overlay := 0 } : SegDef) ({ Align := (Int.tmod (bitsOp .and .i64 s_.Align 255) 5), Combine := z_1, Frame := 0, Offset := 0, Len := (Int.tmod (bitsOp .and .i64 s_.Len 131071) 65537), Name := (bitsOp .and .i64 s_.Name 32767), Class := (bitsOp .and .i64 s_.Class 255), Overlay := (bitsOp .and .i64 s_.Overlay 255) } : SegDef) odd_ r h
theorem hansomlaw21_near_L (s_ : SegDef) (odd_ : Int) (r : SegDef) (h : hansomlaw21_near s_ odd_ = some r) : L 56 [.d (SegDef.d s_), .d (.int .i64 odd_)] = some (.d (SegDef.d r), [.d (SegDef.d s_), .d (.int .i64 odd_)]) := by
  obtain ⟨p, ⟨hne, hf⟩, hr⟩ := hansomlaw21_near_ok s_ odd_ r h
  obtain ⟨k, hk⟩ := run_of (F := F56) (args := [.d (SegDef.d s_), .d (.int .i64 odd_)]) (ap := [.d (SegDef.d s_), .d (.int .i64 odd_)]) (bx0 := updW (fun _ => none) []) rfl rfl (by kernel_rfl) ⟨p, ⟨hne, hf⟩, hr⟩
  exact lim_run (k := k) rfl hk
def segs_May_h18 (s1 : SegDef) : St := ⟨tab [(1, .ptr [1] 0 0)], tabB [([1], some (.cells [.d (.int .i64 s1.Align), .d (.int .i64 s1.Combine), .d (.int .u16 s1.Frame), .d (.int .u8 s1.Offset), .d (.int .i64 s1.Len), .d (.int .i64 s1.Name), .d (.int .i64 s1.Class), .d (.int .i64 s1.Overlay)] 0))]⟩
def segs_May_h26 (s1 : SegDef) : St := ⟨tab [(1, .ptr [1] 0 0)], tabB [([1], some (.cells [.d (.int .i64 s1.Align), .d (.int .i64 s1.Combine), .d (.int .u16 s1.Frame), .d (.int .u8 s1.Offset), .d (.int .i64 s1.Len), .d (.int .i64 s1.Name), .d (.int .i64 s1.Class), .d (.int .i64 s1.Overlay)] 0))]⟩
def segs_May_h30 (t60 : (A3 Int)) (t61 : Int) : St := ⟨tab [(60, .d (.agg [.int .i64 t60.a0, .int .i64 t60.a1, .int .i64 t60.a2])), (61, .d (.int .i64 t61))], tabB []⟩
def segs_May_h49  : St := ⟨tab [], tabB []⟩
def segs_May_Q (s_ : SegDef) (r : Bool) (p : Out × St) : Prop := (∀ i, p.1 ≠ .exit i) ∧ finF F59 [.d (SegDef.d s_)] p.2 = some (.d (.bool r), [.d (SegDef.d s_)])
def segs_May_P30 (s_ : SegDef) (t60 : (A3 Int)) (e : (Bool ⊕ Unit)) (p : Out × St) : Prop := match e with
  | .inl x => p.1 = .ret ∧ finF F59 [.d (SegDef.d s_)] p.2 = some (.d (.bool x), [.d (SegDef.d s_)])
  | .inr x => p.1 = .exit 0 ∧ ∃ g : Unit, Canon [] [] [] p.2 (segs_May_h49)
theorem segs_May_l30_ok (s_ : SegDef) (t60 : (A3 Int)) (t61 : Int) (r : (Lp Int (Bool ⊕ Unit))) (h : segs_May_l30 t60 t61 = some r) : Runs L F59l30 (segs_May_h30 t60 t61) (LQ [] [60, 61] [] (fun (x : Int) (g : Unit) => segs_May_h30 t60 x) (segs_May_P30 s_ t60) r) := by
  unfold segs_May_l30 at h
  refine Runs.seq ?_
  refine Runs.ops ?_
  refine RunAt.chunk 1 [⟨.d (.bool (decide (t61 < 3))), []⟩] (by kernel_rfl) ?_
  refine RunAt.done (by kernel_rfl) ?_
  refine kS_nrm ?_
  refine Runs.seq ?_
  cases hb_12 : ((decide (t61 < 3)) : Bool) with
  | true =>
    replace h := ite_t hb_12 h
    refine Runs.cond_t (by kernel_rfl) ?_
    refine Runs.skip ?_
    refine kS_nrm ?_
    refine Runs.seq ?_
    refine Runs.block ?_
    refine Runs.seq ?_
    refine Runs.ops ?_
    obtain ⟨z_1, hz_1, h⟩ := bind_s h
    refine RunAt.cut (some 63) (.indexA 3 1 none) [] none [.d (.agg [.int .i64 t60.a0, .int .i64 t60.a1, .int .i64 t60.a2]), .d (.int .i64 t61)] (.d (.int .i64 z_1)) [] (by kernel_rfl) (by kernel_rfl) (by kernel_rfl) (cut_ixA (e := (D.int .i64)) (l := t60.l) hz_1 rfl) ?_
    refine RunAt.chunk 1 [⟨.d (.int .i64 z_1), []⟩] (by kernel_rfl) ?_
    refine RunAt.done (by kernel_rfl) ?_
    refine kS_nrm ?_
    refine Runs.seq ?_
    refine Runs.ops ?_
    refine RunAt.chunk 3 [⟨.d (.int .i64 z_1), []⟩, ⟨.d (.bool (decide (z_1 < 0))), []⟩, ⟨.d (.bool (decide (z_1 < 0))), []⟩] (by kernel_rfl) ?_
    cases hb_13 : ((decide (z_1 < 0)) : Bool) with
    | true =>
      replace h := ite_t hb_13 h
      refine RunAt.chunk 3 [⟨.tup [], []⟩, ⟨.tup [], []⟩, ⟨.d (.bool true), []⟩] (by kernel_rfl) ?_
      refine RunAt.done (by kernel_rfl) ?_
      refine kS_nrm ?_
      refine Runs.cond_t (by kernel_rfl) ?_
      refine Runs.seq ?_
      refine Runs.ops ?_
      refine RunAt.chunk 1 [⟨.d (.bool false), []⟩] (by kernel_rfl) ?_
      refine RunAt.done (by kernel_rfl) ?_
      refine kS_nrm ?_
      refine Runs.ret ?_
      refine kB_ret ?_
      refine kS_ret ?_
      obtain rfl := Option.some.inj h
      exact ⟨nofun, rfl, (by kernel_rfl)⟩
    | false =>
      replace h := ite_f hb_13 h
      refine RunAt.chunk 3 [⟨.d (.int .i64 z_1), []⟩, ⟨.d (.bool (decide (z_1 > 32767))), []⟩, ⟨.d (.bool (decide (z_1 > 32767))), []⟩] (by kernel_rfl) ?_
      refine RunAt.done (by kernel_rfl) ?_
      refine kS_nrm ?_
      cases hb_14 : ((decide (z_1 > 32767)) : Bool) with
      | true =>
        replace h := ite_t hb_14 h
        refine Runs.cond_t (by kernel_rfl) ?_
        refine Runs.seq ?_
        refine Runs.ops ?_
        refine RunAt.chunk 1 [⟨.d (.bool false), []⟩] (by kernel_rfl) ?_
        refine RunAt.done (by kernel_rfl) ?_
        refine kS_nrm ?_
        refine Runs.ret ?_
        refine kB_ret ?_
        refine kS_ret ?_
        obtain rfl := Option.some.inj h
        exact ⟨nofun, rfl, (by kernel_rfl)⟩
      | false =>
        replace h := ite_f hb_14 h
        refine Runs.cond_f (by kernel_rfl) ?_
        refine Runs.skip ?_
        refine kB_nrm ?_
        refine kS_nrm ?_
        refine Runs.ops ?_
        refine RunAt.chunk 2 [⟨.d (.int .i64 (IntKind.wrap .i64 (t61 + 1))), []⟩, ⟨.d (.int .i64 (IntKind.wrap .i64 (t61 + 1))), []⟩] (by kernel_rfl) ?_
        refine RunAt.done (by kernel_rfl) ?_
        obtain rfl := Option.some.inj h
        exact ⟨rfl, (), (Canon.nil (by kernel_rfl))⟩
  | false =>
    replace h := ite_f hb_12 h
    refine Runs.cond_f (by kernel_rfl) ?_
    refine Runs.exit ?_
    refine kS_exit ?_
    obtain rfl := Option.some.inj h
    exact ⟨nofun, rfl, (), (Canon.nil (by kernel_rfl))⟩
theorem segs_May_j26_ok (s_ : SegDef) (s1 : SegDef) (r : Bool) (h : segs_May_j26 s1 = some r) : Runs L F59b26 (segs_May_h26 s1) (segs_May_Q s_ r) := by
  unfold segs_May_j26 at h
  refine Runs.seq ?_
  refine Runs.seq ?_
  refine Runs.ops ?_
  refine RunAt.chunk 8 [⟨.ptr [1] 0 5, []⟩, ⟨.d (.int .i64 s1.Name), []⟩, ⟨.ptr [1] 0 6, []⟩, ⟨.d (.int .i64 s1.Class), []⟩, ⟨.ptr [1] 0 7, []⟩, ⟨.d (.int .i64 s1.Overlay), []⟩, ⟨.d (.agg [.int .i64 s1.Name, .int .i64 s1.Class, .int .i64 s1.Overlay]), []⟩, ⟨.d (.int .i64 0), []⟩] (by kernel_rfl) ?_
  refine RunAt.done (by kernel_rfl) ?_
  refine kS_nrm ?_
  refine Runs.block ?_
  obtain ⟨e_1, he_1, h⟩ := bind_s h
  refine Runs.loop (fun x : Int => segs_May_l30 ({ a0 := s1.Name, a1 := s1.Class, a2 := s1.Overlay } : (A3 Int)) x) (fun (x : Int) (g : Unit) => segs_May_h30 ({ a0 := s1.Name, a1 := s1.Class, a2 := s1.Overlay } : (A3 Int)) x) (segs_May_P30 s_ ({ a0 := s1.Name, a1 := s1.Class, a2 := s1.Overlay } : (A3 Int))) (fun x g r hr => segs_May_l30_ok s_ ({ a0 := s1.Name, a1 := s1.Class, a2 := s1.Overlay } : (A3 Int)) x  r hr) () he_1 (Canon.nil (by kernel_rfl)) ?_
  rintro ⟨o, s⟩ hp
  cases e_1 with
  | inl e_2 =>
    obtain ⟨ho, hf⟩ := hp
    have ho' : o = .ret := ho
    subst ho'
    refine kB_ret ?_
    refine kS_ret ?_
    obtain rfl := Option.some.inj h
    exact ⟨Out.ret_ne, hf⟩
  | inr e_3 =>
    obtain ⟨ho, g_1, hk_1⟩ := hp
    have ho' : o = .exit 0 := ho
    subst ho'
    refine kB_hit ?_
    refine kS_nrm ?_
    refine Runs.canon _ hk_1 ?_
    refine Runs.seq ?_
    refine Runs.ops ?_
    refine RunAt.chunk 1 [⟨.d (.bool true), []⟩] (by kernel_rfl) ?_
    refine RunAt.done (by kernel_rfl) ?_
    refine kS_nrm ?_
    refine Runs.ret ?_
    obtain rfl := Option.some.inj h
    exact ⟨Out.ret_ne, (by kernel_rfl)⟩
theorem segs_May_j18_ok (s_ : SegDef) (s1 : SegDef) (r : Bool) (h : segs_May_j18 s1 = some r) : Runs L F59b18 (segs_May_h18 s1) (segs_May_Q s_ r) := by
  unfold segs_May_j18 at h
  refine Runs.seq ?_
  refine Runs.seq ?_
  refine Runs.ops ?_
  refine RunAt.chunk 4 [⟨.ptr [1] 0 0, []⟩, ⟨.d (.int .i64 s1.Align), []⟩, ⟨.d (.bool (s1.Align != 0)), []⟩, ⟨.d (.bool (s1.Align != 0)), []⟩] (by kernel_rfl) ?_
  cases hb_9 : ((s1.Align != 0) : Bool) with
  | true =>
    replace h := ite_t hb_9 h
    refine RunAt.chunk 4 [⟨.ptr [1] 0 2, []⟩, ⟨.d (.int .u16 s1.Frame), []⟩, ⟨.d (.bool (s1.Frame != 0)), []⟩, ⟨.d (.bool (s1.Frame != 0)), []⟩] (by kernel_rfl) ?_
    cases hb_10 : ((s1.Frame != 0) : Bool) with
    | true =>
      replace h := ite_t hb_10 h
      refine RunAt.chunk 5 [⟨.tup [], []⟩, ⟨.tup [], []⟩, ⟨.tup [], []⟩, ⟨.d (.bool true), []⟩, ⟨.d (.bool true), []⟩] (by kernel_rfl) ?_
      refine RunAt.done (by kernel_rfl) ?_
      refine kS_nrm ?_
      refine Runs.cond_t (by kernel_rfl) ?_
      refine Runs.seq ?_
      refine Runs.ops ?_
      refine RunAt.chunk 1 [⟨.d (.bool false), []⟩] (by kernel_rfl) ?_
      refine RunAt.done (by kernel_rfl) ?_
      refine kS_nrm ?_
      refine Runs.ret ?_
      refine kS_ret ?_
      obtain rfl := Option.some.inj h
      exact ⟨Out.ret_ne, (by kernel_rfl)⟩
    | false =>
      replace h := ite_f hb_10 h
      refine RunAt.chunk 5 [⟨.ptr [1] 0 3, []⟩, ⟨.d (.int .u8 s1.Offset), []⟩, ⟨.d (.bool (s1.Offset != 0)), []⟩, ⟨.d (.bool (s1.Offset != 0)), []⟩, ⟨.d (.bool (s1.Offset != 0)), []⟩] (by kernel_rfl) ?_
      refine RunAt.done (by kernel_rfl) ?_
      refine kS_nrm ?_
      cases hb_11 : ((s1.Offset != 0) : Bool) with
      | true =>
        replace h := ite_t hb_11 h
        refine Runs.cond_t (by kernel_rfl) ?_
        refine Runs.seq ?_
        refine Runs.ops ?_
        refine RunAt.chunk 1 [⟨.d (.bool false), []⟩] (by kernel_rfl) ?_
        refine RunAt.done (by kernel_rfl) ?_
        refine kS_nrm ?_
        refine Runs.ret ?_
        refine kS_ret ?_
        obtain rfl := Option.some.inj h
        exact ⟨Out.ret_ne, (by kernel_rfl)⟩
      | false =>
        replace h := ite_f hb_11 h
        refine Runs.cond_f (by kernel_rfl) ?_
        refine Runs.skip ?_
        refine kS_nrm ?_
        refine Runs.canon (segs_May_h26 s1) (Canon.nil (by kernel_rfl)) ?_
        exact segs_May_j26_ok s_ s1 r h
  | false =>
    replace h := ite_f hb_9 h
    refine RunAt.chunk 9 [⟨.tup [], []⟩, ⟨.tup [], []⟩, ⟨.tup [], []⟩, ⟨.tup [], []⟩, ⟨.tup [], []⟩, ⟨.tup [], []⟩, ⟨.tup [], []⟩, ⟨.tup [], []⟩, ⟨.d (.bool false), []⟩] (by kernel_rfl) ?_
    refine RunAt.done (by kernel_rfl) ?_
    refine kS_nrm ?_
    refine Runs.cond_f (by kernel_rfl) ?_
    refine Runs.skip ?_
    refine kS_nrm ?_
    refine Runs.canon (segs_May_h26 s1) (Canon.nil (by kernel_rfl)) ?_
    exact segs_May_j26_ok s_ s1 r h
theorem segs_May_ok (s_ : SegDef) (r : Bool) (h : segs_May s_ = some r) : Runs L F59.body ⟨tmOf [.d (SegDef.d s_)] 0, updW (fun _ => none) []⟩ (segs_May_Q s_ r) := by
  unfold segs_May at h
  refine Runs.seq ?_
  refine Runs.ops ?_
  refine RunAt.chunk 2 [⟨.ptr [1] 0 0, [([1], some (.cells [.d (.int .i64 s_.Align), .d (.int .i64 s_.Combine), .d (.int .u16 s_.Frame), .d (.int .u8 s_.Offset), .d (.int .i64 s_.Len), .d (.int .i64 s_.Name), .d (.int .i64 s_.Class), .d (.int .i64 s_.Overlay)] 0))]⟩, ⟨.d (.bool false), []⟩] (by kernel_rfl) ?_
  refine RunAt.done (by kernel_rfl) ?_
  refine kS_nrm ?_
  refine Runs.seq ?_
  refine Runs.seq ?_
  refine Runs.ops ?_
  refine RunAt.chunk 4 [⟨.ptr [1] 0 0, []⟩, ⟨.d (.int .i64 s_.Align), []⟩, ⟨.d (.bool (decide (s_.Align < 0))), []⟩, ⟨.d (.bool (decide (s_.Align < 0))), []⟩] (by kernel_rfl) ?_
  cases hb_1 : ((decide (s_.Align < 0)) : Bool) with
  | true =>
    replace h := ite_t hb_1 h
    refine RunAt.chunk 14 [⟨.tup [], []⟩, ⟨.tup [], []⟩, ⟨.tup [], []⟩, ⟨.d (.bool true), []⟩, ⟨.d (.bool true), []⟩, ⟨.tup [], []⟩, ⟨.tup [], []⟩, ⟨.tup [], []⟩, ⟨.d (.bool true), []⟩, ⟨.d (.bool true), []⟩, ⟨.tup [], []⟩, ⟨.tup [], []⟩, ⟨.tup [], []⟩, ⟨.d (.bool true), []⟩] (by kernel_rfl) ?_
    refine RunAt.done (by kernel_rfl) ?_
    refine kS_nrm ?_
    refine Runs.cond_t (by kernel_rfl) ?_
    refine Runs.seq ?_
    refine Runs.ops ?_
    refine RunAt.chunk 1 [⟨.d (.bool false), []⟩] (by kernel_rfl) ?_
    refine RunAt.done (by kernel_rfl) ?_
    refine kS_nrm ?_
    refine Runs.ret ?_
    refine kS_ret ?_
    obtain rfl := Option.some.inj h
    exact ⟨Out.ret_ne, (by kernel_rfl)⟩
  | false =>
    replace h := ite_f hb_1 h
    refine RunAt.chunk 5 [⟨.ptr [1] 0 0, []⟩, ⟨.d (.int .i64 s_.Align), []⟩, ⟨.d (.bool (decide (s_.Align > 4))), []⟩, ⟨.d (.bool (decide (s_.Align > 4))), []⟩, ⟨.d (.bool (decide (s_.Align > 4))), []⟩] (by kernel_rfl) ?_
    cases hb_2 : ((decide (s_.Align > 4)) : Bool) with
    | true =>
      replace h := ite_t hb_2 h
      refine RunAt.chunk 9 [⟨.tup [], []⟩, ⟨.tup [], []⟩, ⟨.tup [], []⟩, ⟨.d (.bool true), []⟩, ⟨.d (.bool true), []⟩, ⟨.tup [], []⟩, ⟨.tup [], []⟩, ⟨.tup [], []⟩, ⟨.d (.bool true), []⟩] (by kernel_rfl) ?_
      refine RunAt.done (by kernel_rfl) ?_
      refine kS_nrm ?_
      refine Runs.cond_t (by kernel_rfl) ?_
      refine Runs.seq ?_
      refine Runs.ops ?_
      refine RunAt.chunk 1 [⟨.d (.bool false), []⟩] (by kernel_rfl) ?_
      refine RunAt.done (by kernel_rfl) ?_
      refine kS_nrm ?_
      refine Runs.ret ?_
      refine kS_ret ?_
      obtain rfl := Option.some.inj h
      exact ⟨Out.ret_ne, (by kernel_rfl)⟩
    | false =>
      replace h := ite_f hb_2 h
      refine RunAt.chunk 5 [⟨.ptr [1] 0 4, []⟩, ⟨.d (.int .i64 s_.Len), []⟩, ⟨.d (.bool (decide (s_.Len < 0))), []⟩, ⟨.d (.bool (decide (s_.Len < 0))), []⟩, ⟨.d (.bool (decide (s_.Len < 0))), []⟩] (by kernel_rfl) ?_
      cases hb_3 : ((decide (s_.Len < 0)) : Bool) with
      | true =>
        replace h := ite_t hb_3 h
        refine RunAt.chunk 4 [⟨.tup [], []⟩, ⟨.tup [], []⟩, ⟨.tup [], []⟩, ⟨.d (.bool true), []⟩] (by kernel_rfl) ?_
        refine RunAt.done (by kernel_rfl) ?_
        refine kS_nrm ?_
        refine Runs.cond_t (by kernel_rfl) ?_
        refine Runs.seq ?_
        refine Runs.ops ?_
        refine RunAt.chunk 1 [⟨.d (.bool false), []⟩] (by kernel_rfl) ?_
        refine RunAt.done (by kernel_rfl) ?_
        refine kS_nrm ?_
        refine Runs.ret ?_
        refine kS_ret ?_
        obtain rfl := Option.some.inj h
        exact ⟨Out.ret_ne, (by kernel_rfl)⟩
      | false =>
        replace h := ite_f hb_3 h
        refine RunAt.chunk 4 [⟨.ptr [1] 0 4, []⟩, ⟨.d (.int .i64 s_.Len), []⟩, ⟨.d (.bool (decide (s_.Len > 65536))), []⟩, ⟨.d (.bool (decide (s_.Len > 65536))), []⟩] (by kernel_rfl) ?_
        refine RunAt.done (by kernel_rfl) ?_
        refine kS_nrm ?_
        cases hb_4 : ((decide (s_.Len > 65536)) : Bool) with
        | true =>
          replace h := ite_t hb_4 h
          refine Runs.cond_t (by kernel_rfl) ?_
          refine Runs.seq ?_
          refine Runs.ops ?_
          refine RunAt.chunk 1 [⟨.d (.bool false), []⟩] (by kernel_rfl) ?_
          refine RunAt.done (by kernel_rfl) ?_
          refine kS_nrm ?_
          refine Runs.ret ?_
          refine kS_ret ?_
          obtain rfl := Option.some.inj h
          exact ⟨Out.ret_ne, (by kernel_rfl)⟩
        | false =>
          replace h := ite_f hb_4 h
          refine Runs.cond_f (by kernel_rfl) ?_
          refine Runs.skip ?_
          refine kS_nrm ?_
          refine Runs.seq ?_
          refine Runs.seq ?_
          refine Runs.ops ?_
          refine RunAt.chunk 4 [⟨.ptr [1] 0 1, []⟩, ⟨.d (.int .i64 s_.Combine), []⟩, ⟨.d (.bool (s_.Combine != 0)), []⟩, ⟨.d (.bool (s_.Combine != 0)), []⟩] (by kernel_rfl) ?_
          cases hb_5 : ((s_.Combine != 0) : Bool) with
          | true =>
            replace h := ite_t hb_5 h
            refine RunAt.chunk 5 [⟨.ptr [1] 0 1, []⟩, ⟨.d (.int .i64 s_.Combine), []⟩, ⟨.d (.bool (s_.Combine != 2)), []⟩, ⟨.d (.bool (s_.Combine != 2)), []⟩, ⟨.d (.bool (s_.Combine != 2)), []⟩] (by kernel_rfl) ?_
            cases hb_6 : ((s_.Combine != 2) : Bool) with
            | true =>
              replace h := ite_t hb_6 h
              refine RunAt.chunk 5 [⟨.ptr [1] 0 1, []⟩, ⟨.d (.int .i64 s_.Combine), []⟩, ⟨.d (.bool (s_.Combine != 5)), []⟩, ⟨.d (.bool (s_.Combine != 5)), []⟩, ⟨.d (.bool (s_.Combine != 5)), []⟩] (by kernel_rfl) ?_
              cases hb_7 : ((s_.Combine != 5) : Bool) with
              | true =>
                replace h := ite_t hb_7 h
                refine RunAt.chunk 4 [⟨.ptr [1] 0 1, []⟩, ⟨.d (.int .i64 s_.Combine), []⟩, ⟨.d (.bool (s_.Combine != 6)), []⟩, ⟨.d (.bool (s_.Combine != 6)), []⟩] (by kernel_rfl) ?_
                refine RunAt.done (by kernel_rfl) ?_
                refine kS_nrm ?_
                cases hb_8 : ((s_.Combine != 6) : Bool) with
                | true =>
                  replace h := ite_t hb_8 h
                  refine Runs.cond_t (by kernel_rfl) ?_
                  refine Runs.seq ?_
                  refine Runs.ops ?_
                  refine RunAt.chunk 1 [⟨.d (.bool false), []⟩] (by kernel_rfl) ?_
                  refine RunAt.done (by kernel_rfl) ?_
                  refine kS_nrm ?_
                  refine Runs.ret ?_
                  refine kS_ret ?_
                  obtain rfl := Option.some.inj h
                  exact ⟨Out.ret_ne, (by kernel_rfl)⟩
                | false =>
                  replace h := ite_f hb_8 h
                  refine Runs.cond_f (by kernel_rfl) ?_
                  refine Runs.skip ?_
                  refine kS_nrm ?_
                  refine Runs.canon (segs_May_h18 s_) (Canon.nil (by kernel_rfl)) ?_
                  exact segs_May_j18_ok s_ s_ r h
              | false =>
                replace h := ite_f hb_7 h
                refine RunAt.chunk 4 [⟨.tup [], []⟩, ⟨.tup [], []⟩, ⟨.tup [], []⟩, ⟨.d (.bool false), []⟩] (by kernel_rfl) ?_
                refine RunAt.done (by kernel_rfl) ?_
                refine kS_nrm ?_
                refine Runs.cond_f (by kernel_rfl) ?_
                refine Runs.skip ?_
                refine kS_nrm ?_
                refine Runs.canon (segs_May_h18 s_) (Canon.nil (by kernel_rfl)) ?_
                exact segs_May_j18_ok s_ s_ r h
            | false =>
              replace h := ite_f hb_6 h
              refine RunAt.chunk 9 [⟨.tup [], []⟩, ⟨.tup [], []⟩, ⟨.tup [], []⟩, ⟨.d (.bool false), []⟩, ⟨.d (.bool false), []⟩, ⟨.tup [], []⟩, ⟨.tup [], []⟩, ⟨.tup [], []⟩, ⟨.d (.bool false), []⟩] (by kernel_rfl) ?_
              refine RunAt.done (by kernel_rfl) ?_
              refine kS_nrm ?_
              refine Runs.cond_f (by kernel_rfl) ?_
              refine Runs.skip ?_
              refine kS_nrm ?_
              refine Runs.canon (segs_May_h18 s_) (Canon.nil (by kernel_rfl)) ?_
              exact segs_May_j18_ok s_ s_ r h
          | false =>
            replace h := ite_f hb_5 h
            refine RunAt.chunk 14 [⟨.tup [], []⟩, ⟨.tup [], []⟩, ⟨.tup [], []⟩, ⟨.d (.bool false), []⟩, ⟨.d (.bool false), []⟩, ⟨.tup [], []⟩, ⟨.tup [], []⟩, ⟨.tup [], []⟩, ⟨.d (.bool false), []⟩, ⟨.d (.bool false), []⟩, ⟨.tup [], []⟩, ⟨.tup [], []⟩, ⟨.tup [], []⟩, ⟨.d (.bool false), []⟩] (by kernel_rfl) ?_
            refine RunAt.done (by kernel_rfl) ?_
            refine kS_nrm ?_
            refine Runs.cond_f (by kernel_rfl) ?_
            refine Runs.skip ?_
            refine kS_nrm ?_
            refine Runs.canon (segs_May_h18 s_) (Canon.nil (by kernel_rfl)) ?_
            exact segs_May_j18_ok s_ s_ r h
theorem segs_May_L (s_ : SegDef) (r : Bool) (h : segs_May s_ = some r) : L 59 [.d (SegDef.d s_)] = some (.d (.bool r), [.d (SegDef.d s_)]) := by
  obtain ⟨p, ⟨hne, hf⟩, hr⟩ := segs_May_ok s_ r h
  obtain ⟨k, hk⟩ := run_of (F := F59) (args := [.d (SegDef.d s_)]) (ap := [.d (SegDef.d s_)]) (bx0 := updW (fun _ => none) []) rfl rfl (by kernel_rfl) ⟨p, ⟨hne, hf⟩, hr⟩
  exact lim_run (k := k) rfl hk
def bits_Low_Q (w_ : Int) (r : Int) (p : Out × St) : Prop := (∀ i, p.1 ≠ .exit i) ∧ finF F67 [.d (.int .u16 w_)] p.2 = some (.d (.int .u8 r), [.d (.int .u16 w_)])
theorem bits_Low_ok (w_ : Int) (r : Int) (h : bits_Low w_ = some r) : Runs L F67.body ⟨tmOf [.d (.int .u16 w_)] 0, updW (fun _ => none) []⟩ (bits_Low_Q w_ r) := by
  unfold bits_Low at h
  refine Runs.seq ?_
  refine Runs.ops ?_
  refine RunAt.chunk 1 [⟨.d (.int .u8 0), []⟩] (by kernel_rfl) ?_
  refine RunAt.done (by kernel_rfl) ?_
  refine kS_nrm ?_
  refine Runs.seq ?_
  refine Runs.ops ?_
  refine RunAt.chunk 3 [⟨.d (.int .u16 w_), []⟩, ⟨.d (.int .u8 (IntKind.wrap .u8 w_)), []⟩, ⟨.d (.int .u8 (IntKind.wrap .u8 w_)), []⟩] (by kernel_rfl) ?_
  refine RunAt.done (by kernel_rfl) ?_
  refine kS_nrm ?_
  refine Runs.ret ?_
  obtain rfl := Option.some.inj h
  exact ⟨Out.ret_ne, (by kernel_rfl)⟩
theorem bits_Low_L (w_ : Int) (r : Int) (h : bits_Low w_ = some r) : L 67 [.d (.int .u16 w_)] = some (.d (.int .u8 r), [.d (.int .u16 w_)]) := by
  obtain ⟨p, ⟨hne, hf⟩, hr⟩ := bits_Low_ok w_ r h
  obtain ⟨k, hk⟩ := run_of (F := F67) (args := [.d (.int .u16 w_)]) (ap := [.d (.int .u16 w_)]) (bx0 := updW (fun _ => none) []) rfl rfl (by kernel_rfl) ⟨p, ⟨hne, hf⟩, hr⟩
  exact lim_run (k := k) rfl hk
def bits_High_Q (w_ : Int) (r : Int) (p : Out × St) : Prop := (∀ i, p.1 ≠ .exit i) ∧ finF F68 [.d (.int .u16 w_)] p.2 = some (.d (.int .u8 r), [.d (.int .u16 w_)])
theorem bits_High_ok (w_ : Int) (r : Int) (h : bits_High w_ = some r) : Runs L F68.body ⟨tmOf [.d (.int .u16 w_)] 0, updW (fun _ => none) []⟩ (bits_High_Q w_ r) := by
  unfold bits_High at h
  refine Runs.seq ?_
  refine Runs.ops ?_
  refine RunAt.chunk 1 [⟨.d (.int .u8 0), []⟩] (by kernel_rfl) ?_
  refine RunAt.done (by kernel_rfl) ?_
  refine kS_nrm ?_
  refine Runs.seq ?_
  refine Runs.ops ?_
  refine RunAt.chunk 4 [⟨.d (.int .u16 w_), []⟩, ⟨.d (.int .u16 (shrI .u16 w_ 8)), []⟩, ⟨.d (.int .u8 (IntKind.wrap .u8 (shrI .u16 w_ 8))), []⟩, ⟨.d (.int .u8 (IntKind.wrap .u8 (shrI .u16 w_ 8))), []⟩] (by kernel_rfl) ?_
  refine RunAt.done (by kernel_rfl) ?_
  refine kS_nrm ?_
  refine Runs.ret ?_
  obtain rfl := Option.some.inj h
  exact ⟨Out.ret_ne, (by kernel_rfl)⟩
theorem bits_High_L (w_ : Int) (r : Int) (h : bits_High w_ = some r) : L 68 [.d (.int .u16 w_)] = some (.d (.int .u8 r), [.d (.int .u16 w_)]) := by
  obtain ⟨p, ⟨hne, hf⟩, hr⟩ := bits_High_ok w_ r h
  obtain ⟨k, hk⟩ := run_of (F := F68) (args := [.d (.int .u16 w_)]) (ap := [.d (.int .u16 w_)]) (bx0 := updW (fun _ => none) []) rfl rfl (by kernel_rfl) ⟨p, ⟨hne, hf⟩, hr⟩
  exact lim_run (k := k) rfl hk
def index_Two_Q (w_ : Int) (r : (List Int)) (p : Out × St) : Prop := (∀ i, p.1 ≠ .exit i) ∧ finF F20 [.d (.int .u16 w_)] p.2 = some (.d (.sl (List.map (D.int .u8) r)), [.d (.int .u16 w_)])
theorem index_Two_ok (w_ : Int) (r : (List Int)) (h : index_Two w_ = some r) : Runs L F20.body ⟨tmOf [.d (.int .u16 w_)] 0, updW (fun _ => none) []⟩ (index_Two_Q w_ r) := by
  unfold index_Two at h
  refine Runs.seq ?_
  refine Runs.ops ?_
  refine RunAt.chunk 1 [⟨.nils, []⟩] (by kernel_rfl) ?_
  refine RunAt.done (by kernel_rfl) ?_
  refine kS_nrm ?_
  refine Runs.seq ?_
  refine Runs.ops ?_
  refine RunAt.chunk 1 [⟨.d (.int .u16 w_), []⟩] (by kernel_rfl) ?_
  obtain ⟨r_1, hr_1, h⟩ := bind_s h
  have hc_1 := bits_Low_L w_ r_1 hr_1
  refine RunAt.cut (some 4) (.callf 67) [] none [.d (.int .u16 w_)] (.d (.int .u8 r_1)) [] (by kernel_rfl) (by kernel_rfl) (by kernel_rfl) (cut_call (call_of (ws := []) (us := []) (by kernel_rfl) (by kernel_rfl) hc_1 (by kernel_rfl) (by kernel_rfl))) ?_
  refine RunAt.chunk 1 [⟨.d (.int .u16 w_), []⟩] (by kernel_rfl) ?_
  obtain ⟨r_2, hr_2, h⟩ := bind_s h
  have hc_2 := bits_High_L w_ r_2 hr_2
  refine RunAt.cut (some 6) (.callf 68) [] none [.d (.int .u16 w_)] (.d (.int .u8 r_2)) [] (by kernel_rfl) (by kernel_rfl) (by kernel_rfl) (cut_call (call_of (ws := []) (us := []) (by kernel_rfl) (by kernel_rfl) hc_2 (by kernel_rfl) (by kernel_rfl))) ?_
  refine RunAt.chunk 2 [⟨.ref [7] 0 0 (List.map (D.int .u8) ([r_1, r_2] : List Int)).length 1, [([7], some (.arr (List.map (D.int .u8) ([r_1, r_2] : List Int)) 0 false))]⟩, ⟨.ref [7] 0 0 (List.map (D.int .u8) ([r_1, r_2] : List Int)).length 1, []⟩] (by kernel_rfl) ?_
  refine RunAt.done (by kernel_rfl) ?_
  refine kS_nrm ?_
  refine Runs.seq ?_
  refine Runs.gcons (frz_ref (e := (D.int .u8)) (l := ([r_1, r_2] : List Int)) (id := [7]) (v := 0) (n := 1) (fz := false) (by kernel_rfl) (by kernel_rfl) rfl) ?_
  refine Runs.gnil ?_
  refine kS_nrm ?_
  refine Runs.ret ?_
  obtain rfl := Option.some.inj h
  exact ⟨Out.ret_ne, (by kernel_rfl)⟩
theorem index_Two_L (w_ : Int) (r : (List Int)) (h : index_Two w_ = some r) : L 20 [.d (.int .u16 w_)] = some (.d (.sl (List.map (D.int .u8) r)), [.d (.int .u16 w_)]) := by
  obtain ⟨p, ⟨hne, hf⟩, hr⟩ := index_Two_ok w_ r h
  obtain ⟨k, hk⟩ := run_of (F := F20) (args := [.d (.int .u16 w_)]) (ap := [.d (.int .u16 w_)]) (bx0 := updW (fun _ => none) []) rfl rfl (by kernel_rfl) ⟨p, ⟨hne, hf⟩, hr⟩
  exact lim_run (k := k) rfl hk
def index_Put_Q (n_ : Int) (r : (List Int)) (p : Out × St) : Prop := (∀ i, p.1 ≠ .exit i) ∧ finF F16 [.d (.int .i64 n_)] p.2 = some (.arr false 1 (List.map (D.int .u8) r), [.d (.int .i64 n_)])
theorem index_Put_ok (n_ : Int) (r : (List Int)) (h : index_Put n_ = some r) : Runs L F16.body ⟨tmOf [.d (.int .i64 n_)] 0, updW (fun _ => none) []⟩ (index_Put_Q n_ r) := by
  unfold index_Put at h
  refine Runs.seq ?_
  refine Runs.ops ?_
  refine RunAt.chunk 1 [⟨.nils, []⟩] (by kernel_rfl) ?_
  refine RunAt.done (by kernel_rfl) ?_
  refine kS_nrm ?_
  refine Runs.seq ?_
  refine Runs.block ?_
  refine Runs.seq ?_
  refine Runs.ops ?_
  refine RunAt.chunk 3 [⟨.d (.int .i64 n_), []⟩, ⟨.d (.bool (decide (n_ < 0))), []⟩, ⟨.d (.bool (decide (n_ < 0))), []⟩] (by kernel_rfl) ?_
  cases hb_1 : ((decide (n_ < 0)) : Bool) with
  | true =>
    replace h := ite_t hb_1 h
    refine RunAt.chunk 4 [⟨.tup [], []⟩, ⟨.tup [], []⟩, ⟨.d (.bool true), []⟩, ⟨.d (.bool true), []⟩] (by kernel_rfl) ?_
    refine RunAt.done (by kernel_rfl) ?_
    refine kS_nrm ?_
    refine Runs.cond_t (by kernel_rfl) ?_
    refine Runs.seq ?_
    refine Runs.ops ?_
    refine RunAt.chunk 2 [⟨.ref [10] 0 0 (List.map (D.int .u8) ([0] : List Int)).length 1, [([10], some (.arr (List.map (D.int .u8) ([0] : List Int)) 0 false))]⟩, ⟨.ref [10] 0 0 (List.map (D.int .u8) ([0] : List Int)).length 1, []⟩] (by kernel_rfl) ?_
    refine RunAt.done (by kernel_rfl) ?_
    refine kS_nrm ?_
    refine Runs.ret ?_
    refine kB_ret ?_
    refine kS_ret ?_
    obtain rfl := Option.some.inj h
    exact ⟨Out.ret_ne, (fin_of (rs := [.ref [10] 0 0 (List.map (D.int .u8) ([0] : List Int)).length 1]) (by kernel_rfl) (by kernel_rfl) (outs_own (id := [10]) (v := 0) (fz := false) (es := List.map (D.int .u8) ([0] : List Int)) (by kernel_rfl) (by decide) rfl outs_nil) (gives_cons (give_same (by kernel_rfl)) gives_nil))⟩
  | false =>
    replace h := ite_f hb_1 h
    refine RunAt.chunk 4 [⟨.d (.int .i64 n_), []⟩, ⟨.d (.bool (decide (n_ > 32767))), []⟩, ⟨.d (.bool (decide (n_ > 32767))), []⟩, ⟨.d (.bool (decide (n_ > 32767))), []⟩] (by kernel_rfl) ?_
    refine RunAt.done (by kernel_rfl) ?_
    refine kS_nrm ?_
    cases hb_2 : ((decide (n_ > 32767)) : Bool) with
    | true =>
      replace h := ite_t hb_2 h
      refine Runs.cond_t (by kernel_rfl) ?_
      refine Runs.seq ?_
      refine Runs.ops ?_
      refine RunAt.chunk 2 [⟨.ref [10] 0 0 (List.map (D.int .u8) ([0] : List Int)).length 1, [([10], some (.arr (List.map (D.int .u8) ([0] : List Int)) 0 false))]⟩, ⟨.ref [10] 0 0 (List.map (D.int .u8) ([0] : List Int)).length 1, []⟩] (by kernel_rfl) ?_
      refine RunAt.done (by kernel_rfl) ?_
      refine kS_nrm ?_
      refine Runs.ret ?_
      refine kB_ret ?_
      refine kS_ret ?_
      obtain rfl := Option.some.inj h
      exact ⟨Out.ret_ne, (fin_of (rs := [.ref [10] 0 0 (List.map (D.int .u8) ([0] : List Int)).length 1]) (by kernel_rfl) (by kernel_rfl) (outs_own (id := [10]) (v := 0) (fz := false) (es := List.map (D.int .u8) ([0] : List Int)) (by kernel_rfl) (by decide) rfl outs_nil) (gives_cons (give_same (by kernel_rfl)) gives_nil))⟩
    | false =>
      replace h := ite_f hb_2 h
      refine Runs.cond_f (by kernel_rfl) ?_
      refine Runs.seq ?_
      refine Runs.ops ?_
      refine RunAt.chunk 3 [⟨.d (.int .i64 n_), []⟩, ⟨.d (.bool (decide (n_ < 128))), []⟩, ⟨.d (.bool (decide (n_ < 128))), []⟩] (by kernel_rfl) ?_
      refine RunAt.done (by kernel_rfl) ?_
      refine kS_nrm ?_
      cases hb_3 : ((decide (n_ < 128)) : Bool) with
      | true =>
        replace h := ite_t hb_3 h
        refine Runs.cond_t (by kernel_rfl) ?_
        refine Runs.seq ?_
        refine Runs.ops ?_
        refine RunAt.chunk 4 [⟨.d (.int .i64 n_), []⟩, ⟨.d (.int .u8 (IntKind.wrap .u8 n_)), []⟩, ⟨.ref [16] 0 0 (List.map (D.int .u8) ([(IntKind.wrap .u8 n_)] : List Int)).length 1, [([16], some (.arr (List.map (D.int .u8) ([(IntKind.wrap .u8 n_)] : List Int)) 0 false))]⟩, ⟨.ref [16] 0 0 (List.map (D.int .u8) ([(IntKind.wrap .u8 n_)] : List Int)).length 1, []⟩] (by kernel_rfl) ?_
        refine RunAt.done (by kernel_rfl) ?_
        refine kS_nrm ?_
        refine Runs.ret ?_
        refine kB_ret ?_
        refine kS_ret ?_
        obtain rfl := Option.some.inj h
        exact ⟨Out.ret_ne, (fin_of (rs := [.ref [16] 0 0 (List.map (D.int .u8) ([(IntKind.wrap .u8 n_)] : List Int)).length 1]) (by kernel_rfl) (by kernel_rfl) (outs_own (id := [16]) (v := 0) (fz := false) (es := List.map (D.int .u8) ([(IntKind.wrap .u8 n_)] : List Int)) (by kernel_rfl) (by decide) rfl outs_nil) (gives_cons (give_same (by kernel_rfl)) gives_nil))⟩
      | false =>
        replace h := ite_f hb_3 h
        refine Runs.cond_f (by kernel_rfl) ?_
        refine Runs.skip ?_
        refine kB_nrm ?_
        refine kS_nrm ?_
        refine Runs.seq ?_
        refine Runs.ops ?_
        refine RunAt.chunk 8 [⟨.d (.int .i64 n_), []⟩, ⟨.d (.int .i64 (shrI .i64 n_ 8)), []⟩, ⟨.d (.int .u8 (IntKind.wrap .u8 (shrI .i64 n_ 8))), []⟩, ⟨.d (.int .u8 (bitsOp .or .u8 (IntKind.wrap .u8 (shrI .i64 n_ 8)) 128)), []⟩, ⟨.d (.int .i64 n_), []⟩, ⟨.d (.int .u8 (IntKind.wrap .u8 n_)), []⟩, ⟨.ref [23] 0 0 (List.map (D.int .u8) ([(bitsOp .or .u8 (IntKind.wrap .u8 (shrI .i64 n_ 8)) 128), (IntKind.wrap .u8 n_)] : List Int)).length 1, [([23], some (.arr (List.map (D.int .u8) ([(bitsOp .or .u8 (IntKind.wrap .u8 (shrI .i64 n_ 8)) 128), (IntKind.wrap .u8 n_)] : List Int)) 0 false))]⟩, ⟨.ref [23] 0 0 (List.map (D.int .u8) ([(bitsOp .or .u8 (IntKind.wrap .u8 (shrI .i64 n_ 8)) 128), (IntKind.wrap .u8 n_)] : List Int)).length 1, []⟩] (by kernel_rfl) ?_
        refine RunAt.done (by kernel_rfl) ?_
        refine kS_nrm ?_
        refine Runs.ret ?_
        obtain rfl := Option.some.inj h
        exact ⟨Out.ret_ne, (fin_of (rs := [.ref [23] 0 0 (List.map (D.int .u8) ([(bitsOp .or .u8 (IntKind.wrap .u8 (shrI .i64 n_ 8)) 128), (IntKind.wrap .u8 n_)] : List Int)).length 1]) (by kernel_rfl) (by kernel_rfl) (outs_own (id := [23]) (v := 0) (fz := false) (es := List.map (D.int .u8) ([(bitsOp .or .u8 (IntKind.wrap .u8 (shrI .i64 n_ 8)) 128), (IntKind.wrap .u8 n_)] : List Int)) (by kernel_rfl) (by decide) rfl outs_nil) (gives_cons (give_same (by kernel_rfl)) gives_nil))⟩
theorem index_Put_L (n_ : Int) (r : (List Int)) (h : index_Put n_ = some r) : L 16 [.d (.int .i64 n_)] = some (.arr false 1 (List.map (D.int .u8) r), [.d (.int .i64 n_)]) := by
  obtain ⟨p, ⟨hne, hf⟩, hr⟩ := index_Put_ok n_ r h
  obtain ⟨k, hk⟩ := run_of (F := F16) (args := [.d (.int .i64 n_)]) (ap := [.d (.int .i64 n_)]) (bx0 := updW (fun _ => none) []) rfl rfl (by kernel_rfl) ⟨p, ⟨hne, hf⟩, hr⟩
  exact lim_run (k := k) rfl hk
def segs_Segment_h18 (s1 : SegDef) (b_2_0 : Int) (first4 : Int) : St := ⟨tab [(1, .ptr [1] 0 0), (2, .ptr [2] 0 0), (4, .d (.int .u8 first4))], tabB [([1], some (.cells [.d (.int .i64 s1.Align), .d (.int .i64 s1.Combine), .d (.int .u16 s1.Frame), .d (.int .u8 s1.Offset), .d (.int .i64 s1.Len), .d (.int .i64 s1.Name), .d (.int .i64 s1.Class), .d (.int .i64 s1.Overlay)] 0)), ([2], some (.cells [.d (.int .u8 b_2_0), .nils] 0))]⟩
def segs_Segment_h26 (s1 : SegDef) (b_26 : (List Int)) (b_2_0 : Int) (v_26 : Nat) : St := ⟨tab [(1, .ptr [1] 0 0), (2, .ptr [2] 0 0), (5, .ref [26] v_26 0 (List.map (D.int .u8) b_26).length 1)], tabB [([1], some (.cells [.d (.int .i64 s1.Align), .d (.int .i64 s1.Combine), .d (.int .u16 s1.Frame), .d (.int .u8 s1.Offset), .d (.int .i64 s1.Len), .d (.int .i64 s1.Name), .d (.int .i64 s1.Class), .d (.int .i64 s1.Overlay)] 0)), ([2], some (.cells [.d (.int .u8 b_2_0), .nils] 0)), ([26], some (.arr (List.map (D.int .u8) b_26) v_26 false))]⟩
def segs_Segment_h32 (b_26 : (List Int)) (b_2_0 : Int) (t51 : (A3 Int)) (t52 : Int) (v_26 : Nat) : St := ⟨tab [(2, .ptr [2] 0 0), (5, .ref [26] v_26 0 (List.map (D.int .u8) b_26).length 1), (51, .d (.agg [.int .i64 t51.a0, .int .i64 t51.a1, .int .i64 t51.a2])), (52, .d (.int .i64 t52))], tabB [([2], some (.cells [.d (.int .u8 b_2_0), .nils] 0)), ([26], some (.arr (List.map (D.int .u8) b_26) v_26 false))]⟩
def segs_Segment_h45 (b_26 : (List Int)) (b_2_0 : Int) (v_26 : Nat) : St := ⟨tab [(2, .ptr [2] 0 0), (5, .ref [26] v_26 0 (List.map (D.int .u8) b_26).length 1)], tabB [([2], some (.cells [.d (.int .u8 b_2_0), .nils] 0)), ([26], some (.arr (List.map (D.int .u8) b_26) v_26 false))]⟩
def segs_Segment_Q (s_ : SegDef) (r : (Record × Bool)) (p : Out × St) : Prop := (∀ i, p.1 ≠ .exit i) ∧ finF F57 [.d (SegDef.d s_)] p.2 = some (.tup [.d (Record.d r.1), .d (.bool r.2)], [.d (SegDef.d s_)])
def segs_Segment_P32 (s_ : SegDef) (b_2_0 : Int) (t51 : (A3 Int)) (e : (List Int)) (p : Out × St) : Prop := p.1 = .exit 0 ∧ ∃ g : Nat, Canon [] [2, 5] [[2], [26]] p.2 (segs_Segment_h45 e b_2_0 g)
theorem segs_Segment_l32_ok (s_ : SegDef) (b_26 : (List Int)) (b_2_0 : Int) (t51 : (A3 Int)) (t52 : Int) (v_26 : Nat) (r : (Lp ((List Int) × Int) (List Int))) (h : segs_Segment_l32 b_26 b_2_0 t51 t52 = some r) : Runs L F57l32 (segs_Segment_h32 b_26 b_2_0 t51 t52 v_26) (LQ [] [2, 5, 51, 52] [[2], [26]] (fun (x : ((List Int) × Int)) (g : Nat) => segs_Segment_h32 x.1 b_2_0 t51 x.2 g) (segs_Segment_P32 s_ b_2_0 t51) r) := by
  unfold segs_Segment_l32 at h
  refine Runs.seq ?_
  refine Runs.ops ?_
  refine RunAt.chunk 1 [⟨.d (.bool (decide (t52 < 3))), []⟩] (by kernel_rfl) ?_
  refine RunAt.done (by kernel_rfl) ?_
  refine kS_nrm ?_
  refine Runs.seq ?_
  cases hb_4 : ((decide (t52 < 3)) : Bool) with
  | true =>
    replace h := ite_t hb_4 h
    refine Runs.cond_t (by kernel_rfl) ?_
    refine Runs.skip ?_
    refine kS_nrm ?_
    refine Runs.seq ?_
    refine Runs.block ?_
    refine Runs.seq ?_
    refine Runs.ops ?_
    obtain ⟨z_4, hz_4, h⟩ := bind_s h
    refine RunAt.cut (some 54) (.indexA 3 1 none) [] none [.d (.agg [.int .i64 t51.a0, .int .i64 t51.a1, .int .i64 t51.a2]), .d (.int .i64 t52)] (.d (.int .i64 z_4)) [] (by kernel_rfl) (by kernel_rfl) (by kernel_rfl) (cut_ixA (e := (D.int .i64)) (l := t51.l) hz_4 rfl) ?_
    refine RunAt.chunk 1 [⟨.d (.int .i64 z_4), []⟩] (by kernel_rfl) ?_
    refine RunAt.done (by kernel_rfl) ?_
    refine kS_nrm ?_
    refine Runs.ops ?_
    refine RunAt.chunk 2 [⟨.ref [26] v_26 0 (List.map (D.int .u8) b_26).length 1, []⟩, ⟨.d (.int .i64 z_4), []⟩] (by kernel_rfl) ?_
    obtain ⟨r_4, hr_4, h⟩ := bind_s h
    have hc_4 := index_Put_L z_4 r_4 hr_4
    refine RunAt.cut (some 57) (.callf 16) [] none [.d (.int .i64 z_4)] (.ref [57] 0 0 (List.map (D.int .u8) r_4).length 1) [([57], some (.arr (List.map (D.int .u8) r_4) 0 false))] (by kernel_rfl) (by kernel_rfl) (by kernel_rfl) (cut_call (call_of (ws := []) (us := []) (by kernel_rfl) (gives_cons (ws := []) (give_same (by kernel_rfl)) gives_nil) hc_4 (by kernel_rfl) (by kernel_rfl))) ?_
    obtain ⟨z_5, hz_5, h⟩ := bind_s h
    refine RunAt.cut (some 58) (.append 1 1 false) [] none [.ref [26] v_26 0 (List.map (D.int .u8) b_26).length 1, .ref [57] 0 0 (List.map (D.int .u8) r_4).length 1] (.ref [26] (v_26 + 1) 0 (List.map (D.int .u8) z_5).length 1) [([57], some (.arr (List.map (D.int .u8) r_4) 0 true)), ([26], some (.arr (List.map (D.int .u8) z_5) (v_26 + 1) false))] (by kernel_rfl) (by kernel_rfl) (by kernel_rfl) (cut_appR (e := (D.int .u8)) (l := b_26) (fz := false) (ws := [([57], some (.arr (List.map (D.int .u8) r_4) 0 true))]) (ap_ref (e := (D.int .u8)) (l := r_4) (fz := false) (by kernel_rfl) (by kernel_rfl) rfl) (fun _ => rfl) hz_5 (by kernel_rfl) (by kernel_rfl) rfl) ?_
    refine RunAt.chunk 1 [⟨.ref [26] (v_26 + 1) 0 (List.map (D.int .u8) z_5).length 1, []⟩] (by kernel_rfl) ?_
    refine RunAt.done (by kernel_rfl) ?_
    refine kB_nrm ?_
    refine kS_nrm ?_
    refine Runs.ops ?_
    refine RunAt.chunk 2 [⟨.d (.int .i64 (IntKind.wrap .i64 (t52 + 1))), []⟩, ⟨.d (.int .i64 (IntKind.wrap .i64 (t52 + 1))), []⟩] (by kernel_rfl) ?_
    refine RunAt.done (by kernel_rfl) ?_
    obtain rfl := Option.some.inj h
    exact ⟨rfl, (v_26 + 1), (Canon.nil (by kernel_rfl))⟩
  | false =>
    replace h := ite_f hb_4 h
    refine Runs.cond_f (by kernel_rfl) ?_
    refine Runs.exit ?_
    refine kS_exit ?_
    obtain rfl := Option.some.inj h
    exact ⟨nofun, rfl, v_26, (Canon.nil (by kernel_rfl))⟩
theorem segs_Segment_j26_ok (s_ : SegDef) (s1 : SegDef) (b_26 : (List Int)) (b_2_0 : Int) (v_26 : Nat) (r : (Record × Bool)) (h : segs_Segment_j26 s1 b_26 b_2_0 = some r) : Runs L F57b26 (segs_Segment_h26 s1 b_26 b_2_0 v_26) (segs_Segment_Q s_ r) := by
  unfold segs_Segment_j26 at h
  refine Runs.seq ?_
  refine Runs.ops ?_
  refine RunAt.chunk 4 [⟨.ref [26] v_26 0 (List.map (D.int .u8) b_26).length 1, []⟩, ⟨.ptr [1] 0 4, []⟩, ⟨.d (.int .i64 s1.Len), []⟩, ⟨.d (.int .u16 (IntKind.wrap .u16 s1.Len)), []⟩] (by kernel_rfl) ?_
  obtain ⟨r_3, hr_3, h⟩ := bind_s h
  have hc_3 := index_Two_L (IntKind.wrap .u16 s1.Len) r_3 hr_3
  refine RunAt.cut (some 43) (.callf 20) [] none [.d (.int .u16 (IntKind.wrap .u16 s1.Len))] (.d (.sl (List.map (D.int .u8) r_3))) [] (by kernel_rfl) (by kernel_rfl) (by kernel_rfl) (cut_call (call_of (ws := []) (us := []) (by kernel_rfl) (by kernel_rfl) hc_3 (by kernel_rfl) (by kernel_rfl))) ?_
  obtain ⟨z_3, hz_3, h⟩ := bind_s h
  refine RunAt.cut (some 44) (.append 1 1 false) [] none [.ref [26] v_26 0 (List.map (D.int .u8) b_26).length 1, .d (.sl (List.map (D.int .u8) r_3))] (.ref [26] (v_26 + 1) 0 (List.map (D.int .u8) z_3).length 1) [([26], some (.arr (List.map (D.int .u8) z_3) (v_26 + 1) false))] (by kernel_rfl) (by kernel_rfl) (by kernel_rfl) (cut_appR (e := (D.int .u8)) (l := b_26) (fz := false) (ws := []) (ap_data _) (fun _ => rfl) hz_3 (by kernel_rfl) (by kernel_rfl) rfl) ?_
  refine RunAt.chunk 1 [⟨.ref [26] (v_26 + 1) 0 (List.map (D.int .u8) z_3).length 1, []⟩] (by kernel_rfl) ?_
  refine RunAt.done (by kernel_rfl) ?_
  refine kS_nrm ?_
  refine Runs.seq ?_
  refine Runs.seq ?_
  refine Runs.ops ?_
  refine RunAt.chunk 8 [⟨.ptr [1] 0 5, []⟩, ⟨.d (.int .i64 s1.Name), []⟩, ⟨.ptr [1] 0 6, []⟩, ⟨.d (.int .i64 s1.Class), []⟩, ⟨.ptr [1] 0 7, []⟩, ⟨.d (.int .i64 s1.Overlay), []⟩, ⟨.d (.agg [.int .i64 s1.Name, .int .i64 s1.Class, .int .i64 s1.Overlay]), []⟩, ⟨.d (.int .i64 0), []⟩] (by kernel_rfl) ?_
  refine RunAt.done (by kernel_rfl) ?_
  refine kS_nrm ?_
  refine Runs.block ?_
  obtain ⟨e_1, he_1, h⟩ := bind_s h
  refine Runs.loop (fun x : ((List Int) × Int) => segs_Segment_l32 x.1 b_2_0 ({ a0 := s1.Name, a1 := s1.Class, a2 := s1.Overlay } : (A3 Int)) x.2) (fun (x : ((List Int) × Int)) (g : Nat) => segs_Segment_h32 x.1 b_2_0 ({ a0 := s1.Name, a1 := s1.Class, a2 := s1.Overlay } : (A3 Int)) x.2 g) (segs_Segment_P32 s_ b_2_0 ({ a0 := s1.Name, a1 := s1.Class, a2 := s1.Overlay } : (A3 Int))) (fun x g r hr => segs_Segment_l32_ok s_ x.1 b_2_0 ({ a0 := s1.Name, a1 := s1.Class, a2 := s1.Overlay } : (A3 Int)) x.2 g r hr) (v_26 + 1) he_1 (Canon.nil (by kernel_rfl)) ?_
  rintro ⟨o, s⟩ hp
  obtain ⟨ho, g_1, hk_1⟩ := hp
  have ho' : o = .exit 0 := ho
  subst ho'
  refine kB_hit ?_
  refine kS_nrm ?_
  refine Runs.canon _ hk_1 ?_
  refine Runs.seq ?_
  refine Runs.ops ?_
  refine RunAt.chunk 4 [⟨.ref [26] g_1 0 (List.map (D.int .u8) e_1).length 1, []⟩, ⟨.mix [.d (.int .u8 152), .ref [26] g_1 0 (List.map (D.int .u8) e_1).length 1], []⟩, ⟨.tup [], [([2], some (.cells [.d (.int .u8 152), .ref [26] g_1 0 (List.map (D.int .u8) e_1).length 1] 0))]⟩, ⟨.d (.bool true), []⟩] (by kernel_rfl) ?_
  refine RunAt.done (by kernel_rfl) ?_
  refine kS_nrm ?_
  refine Runs.seq ?_
  refine Runs.gcons (frzB_ref (e := (D.int .u8)) (l := e_1) (id := [2]) (id' := [26]) (v := g_1) (n := 1) (fz := false) (ver := 0) (cs := [.d (.int .u8 152), .ref [26] g_1 0 (List.map (D.int .u8) e_1).length 1]) (cs' := [.d (.int .u8 152), .d (.sl (List.map (D.int .u8) e_1))]) (by kernel_rfl) (by kernel_rfl) (by kernel_rfl) (by decide) (by kernel_rfl) rfl) ?_
  refine Runs.gnil ?_
  refine kS_nrm ?_
  refine Runs.ret ?_
  obtain rfl := Option.some.inj h
  exact ⟨Out.ret_ne, (by kernel_rfl)⟩
theorem segs_Segment_j18_ok (s_ : SegDef) (s1 : SegDef) (b_2_0 : Int) (first4 : Int) (r : (Record × Bool)) (h : segs_Segment_j18 s1 b_2_0 first4 = some r) : Runs L F57b18 (segs_Segment_h18 s1 b_2_0 first4) (segs_Segment_Q s_ r) := by
  unfold segs_Segment_j18 at h
  refine Runs.seq ?_
  refine Runs.ops ?_
  refine RunAt.chunk 3 [⟨.d (.int .u8 first4), []⟩, ⟨.ref [26] 0 0 (List.map (D.int .u8) ([first4] : List Int)).length 1, [([26], some (.arr (List.map (D.int .u8) ([first4] : List Int)) 0 false))]⟩, ⟨.ref [26] 0 0 (List.map (D.int .u8) ([first4] : List Int)).length 1, []⟩] (by kernel_rfl) ?_
  refine RunAt.done (by kernel_rfl) ?_
  refine kS_nrm ?_
  refine Runs.seq ?_
  refine Runs.seq ?_
  refine Runs.ops ?_
  refine RunAt.chunk 3 [⟨.ptr [1] 0 0, []⟩, ⟨.d (.int .i64 s1.Align), []⟩, ⟨.d (.bool (s1.Align == 0)), []⟩] (by kernel_rfl) ?_
  refine RunAt.done (by kernel_rfl) ?_
  refine kS_nrm ?_
  cases hb_3 : ((s1.Align == 0) : Bool) with
  | true =>
    replace h := ite_t hb_3 h
    refine Runs.cond_t (by kernel_rfl) ?_
    refine Runs.ops ?_
    refine RunAt.chunk 3 [⟨.ref [26] 0 0 (List.map (D.int .u8) ([first4] : List Int)).length 1, []⟩, ⟨.ptr [1] 0 2, []⟩, ⟨.d (.int .u16 s1.Frame), []⟩] (by kernel_rfl) ?_
    obtain ⟨r_2, hr_2, h⟩ := bind_s h
    have hc_2 := index_Two_L s1.Frame r_2 hr_2
    refine RunAt.cut (some 33) (.callf 20) [[37]] (some []) [.d (.int .u16 s1.Frame)] (.d (.sl (List.map (D.int .u8) r_2))) [] (by kernel_rfl) (by kernel_rfl) (by kernel_rfl) (cut_call (call_of (ws := []) (us := []) (by kernel_rfl) (by kernel_rfl) hc_2 (by kernel_rfl) (by kernel_rfl))) ?_
    obtain ⟨z_1, hz_1, h⟩ := bind_s h
    refine RunAt.cut (some 34) (.append 1 1 false) [[37]] (some [[26], [34], [38], [44], [58]]) [.ref [26] 0 0 (List.map (D.int .u8) ([first4] : List Int)).length 1, .d (.sl (List.map (D.int .u8) r_2))] (.ref [26] 1 0 (List.map (D.int .u8) z_1).length 1) [([26], some (.arr (List.map (D.int .u8) z_1) 1 false))] (by kernel_rfl) (by kernel_rfl) (by kernel_rfl) (cut_appR (e := (D.int .u8)) (l := ([first4] : List Int)) (fz := false) (ws := []) (ap_data _) (fun _ => rfl) hz_1 (by kernel_rfl) (by kernel_rfl) rfl) ?_
    refine RunAt.chunk 3 [⟨.ptr [1] 0 3, []⟩, ⟨.d (.int .u8 s1.Offset), []⟩, ⟨.ref [37] 0 0 (List.map (D.int .u8) ([s1.Offset] : List Int)).length 1, [([37], some (.arr (List.map (D.int .u8) ([s1.Offset] : List Int)) 0 false))]⟩] (by kernel_rfl) ?_
    obtain ⟨z_2, hz_2, h⟩ := bind_s h
    refine RunAt.cut (some 38) (.append 1 1 false) [] none [.ref [26] 1 0 (List.map (D.int .u8) z_1).length 1, .ref [37] 0 0 (List.map (D.int .u8) ([s1.Offset] : List Int)).length 1] (.ref [26] 2 0 (List.map (D.int .u8) z_2).length 1) [([37], some (.arr (List.map (D.int .u8) ([s1.Offset] : List Int)) 0 true)), ([26], some (.arr (List.map (D.int .u8) z_2) 2 false))] (by kernel_rfl) (by kernel_rfl) (by kernel_rfl) (cut_appR (e := (D.int .u8)) (l := z_1) (fz := false) (ws := [([37], some (.arr (List.map (D.int .u8) ([s1.Offset] : List Int)) 0 true))]) (ap_ref (e := (D.int .u8)) (l := ([s1.Offset] : List Int)) (fz := false) (by kernel_rfl) (by kernel_rfl) rfl) (fun _ => rfl) hz_2 (by kernel_rfl) (by kernel_rfl) rfl) ?_
    refine RunAt.chunk 1 [⟨.ref [26] 2 0 (List.map (D.int .u8) z_2).length 1, []⟩] (by kernel_rfl) ?_
    refine RunAt.done (by kernel_rfl) ?_
    refine kS_nrm ?_
    refine Runs.canon (segs_Segment_h26 s1 z_2 b_2_0 2) (Canon.nil (by kernel_rfl)) ?_
    exact segs_Segment_j26_ok s_ s1 z_2 b_2_0 2 r h
  | false =>
    replace h := ite_f hb_3 h
    refine Runs.cond_f (by kernel_rfl) ?_
    refine Runs.skip ?_
    refine kS_nrm ?_
    refine Runs.canon (segs_Segment_h26 s1 ([first4] : List Int) b_2_0 0) (Canon.nil (by kernel_rfl)) ?_
    exact segs_Segment_j26_ok s_ s1 ([first4] : List Int) b_2_0 0 r h
theorem segs_Segment_ok (s_ : SegDef) (r : (Record × Bool)) (h : segs_Segment s_ = some r) : Runs L F57.body ⟨tmOf [.d (SegDef.d s_)] 0, updW (fun _ => none) []⟩ (segs_Segment_Q s_ r) := by
  unfold segs_Segment at h
  refine Runs.seq ?_
  refine Runs.ops ?_
  refine RunAt.chunk 3 [⟨.ptr [1] 0 0, [([1], some (.cells [.d (.int .i64 s_.Align), .d (.int .i64 s_.Combine), .d (.int .u16 s_.Frame), .d (.int .u8 s_.Offset), .d (.int .i64 s_.Len), .d (.int .i64 s_.Name), .d (.int .i64 s_.Class), .d (.int .i64 s_.Overlay)] 0))]⟩, ⟨.ptr [2] 0 0, [([2], some (.cells [.d (.int .u8 0), .nils] 0))]⟩, ⟨.d (.bool false), []⟩] (by kernel_rfl) ?_
  refine RunAt.done (by kernel_rfl) ?_
  refine kS_nrm ?_
  refine Runs.seq ?_
  refine Runs.seq ?_
  refine Runs.ops ?_
  refine RunAt.chunk 1 [⟨.d (SegDef.d s_), []⟩] (by kernel_rfl) ?_
  obtain ⟨r_1, hr_1, h⟩ := bind_s h
  have hc_1 := segs_May_L s_ r_1 hr_1
  refine RunAt.cut (some 9) (.callf 59) [] none [.d (SegDef.d s_)] (.d (.bool r_1)) [] (by kernel_rfl) (by kernel_rfl) (by kernel_rfl) (cut_call (call_of (ws := []) (us := []) (by kernel_rfl) (by kernel_rfl) hc_1 (by kernel_rfl) (by kernel_rfl))) ?_
  refine RunAt.chunk 1 [⟨.d (.bool (!r_1)), []⟩] (by kernel_rfl) ?_
  refine RunAt.done (by kernel_rfl) ?_
  refine kS_nrm ?_
  cases hb_1 : ((!r_1) : Bool) with
  | true =>
    replace h := ite_t hb_1 h
    refine Runs.cond_t (by kernel_rfl) ?_
    refine Runs.seq ?_
    refine Runs.ops ?_
    refine RunAt.chunk 3 [⟨.mix [.d (.int .u8 0), .nils], []⟩, ⟨.tup [], [([2], some (.cells [.d (.int .u8 0), .nils] 0))]⟩, ⟨.d (.bool false), []⟩] (by kernel_rfl) ?_
    refine RunAt.done (by kernel_rfl) ?_
    refine kS_nrm ?_
    refine Runs.seq ?_
    refine Runs.gcons (frzB_nil (ver := 0) (cs := [.d (.int .u8 0), .nils]) (cs' := [.d (.int .u8 0), .d (.sl (List.map (D.int .u8) ([] : List Int)))]) (D.int .u8) (by kernel_rfl) (by kernel_rfl) (by kernel_rfl)) ?_
    refine Runs.gnil ?_
    refine kS_nrm ?_
    refine Runs.ret ?_
    refine kS_ret ?_
    obtain rfl := Option.some.inj h
    exact ⟨Out.ret_ne, (by kernel_rfl)⟩
  | false =>
    replace h := ite_f hb_1 h
    refine Runs.cond_f (by kernel_rfl) ?_
    refine Runs.skip ?_
    refine kS_nrm ?_
    refine Runs.seq ?_
    refine Runs.ops ?_
    refine RunAt.chunk 9 [⟨.ptr [1] 0 0, []⟩, ⟨.d (.int .i64 s_.Align), []⟩, ⟨.d (.int .i64 (shlI .i64 s_.Align 5)), []⟩, ⟨.ptr [1] 0 1, []⟩, ⟨.d (.int .i64 s_.Combine), []⟩, ⟨.d (.int .i64 (shlI .i64 s_.Combine 2)), []⟩, ⟨.d (.int .i64 (bitsOp .or .i64 (shlI .i64 s_.Align 5) (shlI .i64 s_.Combine 2))), []⟩, ⟨.d (.int .u8 (IntKind.wrap .u8 (bitsOp .or .i64 (shlI .i64 s_.Align 5) (shlI .i64 s_.Combine 2)))), []⟩, ⟨.d (.int .u8 (IntKind.wrap .u8 (bitsOp .or .i64 (shlI .i64 s_.Align 5) (shlI .i64 s_.Combine 2)))), []⟩] (by kernel_rfl) ?_
    refine RunAt.done (by kernel_rfl) ?_
    refine kS_nrm ?_
    refine Runs.seq ?_
    refine Runs.seq ?_
    refine Runs.ops ?_
    refine RunAt.chunk 3 [⟨.ptr [1] 0 4, []⟩, ⟨.d (.int .i64 s_.Len), []⟩, ⟨.d (.bool (s_.Len == 65536)), []⟩] (by kernel_rfl) ?_
    refine RunAt.done (by kernel_rfl) ?_
    refine kS_nrm ?_
    cases hb_2 : ((s_.Len == 65536) : Bool) with
    | true =>
      replace h := ite_t hb_2 h
      refine Runs.cond_t (by kernel_rfl) ?_
      refine Runs.ops ?_
      refine RunAt.chunk 3 [⟨.d (.int .u8 (IntKind.wrap .u8 (bitsOp .or .i64 (shlI .i64 s_.Align 5) (shlI .i64 s_.Combine 2)))), []⟩, ⟨.d (.int .u8 (bitsOp .or .u8 (IntKind.wrap .u8 (bitsOp .or .i64 (shlI .i64 s_.Align 5) (shlI .i64 s_.Combine 2))) 2)), []⟩, ⟨.d (.int .u8 (bitsOp .or .u8 (IntKind.wrap .u8 (bitsOp .or .i64 (shlI .i64 s_.Align 5) (shlI .i64 s_.Combine 2))) 2)), []⟩] (by kernel_rfl) ?_
      refine RunAt.done (by kernel_rfl) ?_
      refine kS_nrm ?_
      refine Runs.canon (segs_Segment_h18 s_ 0 (bitsOp .or .u8 (IntKind.wrap .u8 (bitsOp .or .i64 (shlI .i64 s_.Align 5) (shlI .i64 s_.Combine 2))) 2)) (Canon.nil (by kernel_rfl)) ?_
      exact segs_Segment_j18_ok s_ s_ 0 (bitsOp .or .u8 (IntKind.wrap .u8 (bitsOp .or .i64 (shlI .i64 s_.Align 5) (shlI .i64 s_.Combine 2))) 2) r h
    | false =>
      replace h := ite_f hb_2 h
      refine Runs.cond_f (by kernel_rfl) ?_
      refine Runs.skip ?_
      refine kS_nrm ?_
      refine Runs.canon (segs_Segment_h18 s_ 0 (IntKind.wrap .u8 (bitsOp .or .i64 (shlI .i64 s_.Align 5) (shlI .i64 s_.Combine 2)))) (Canon.nil (by kernel_rfl)) ?_
      exact segs_Segment_j18_ok s_ s_ 0 (IntKind.wrap .u8 (bitsOp .or .i64 (shlI .i64 s_.Align 5) (shlI .i64 s_.Combine 2))) r h
theorem segs_Segment_L (s_ : SegDef) (r : (Record × Bool)) (h : segs_Segment s_ = some r) : L 57 [.d (SegDef.d s_)] = some (.tup [.d (Record.d r.1), .d (.bool r.2)], [.d (SegDef.d s_)]) := by
  obtain ⟨p, ⟨hne, hf⟩, hr⟩ := segs_Segment_ok s_ r h
  obtain ⟨k, hk⟩ := run_of (F := F57) (args := [.d (SegDef.d s_)]) (ap := [.d (SegDef.d s_)]) (bx0 := updW (fun _ => none) []) rfl rfl (by kernel_rfl) ⟨p, ⟨hne, hf⟩, hr⟩
  exact lim_run (k := k) rfl hk
def index_From_Q (b_ : (List Int)) (r : Source) (p : Out × St) : Prop := (∀ i, p.1 ≠ .exit i) ∧ finF F25 [.d (.sl (List.map (D.int .u8) b_))] p.2 = some (.ptr [.d (.sl (List.map (D.int .u8) r.b)), .d (.int .i64 r.e)], [.d (.sl (List.map (D.int .u8) b_))])
theorem index_From_ok (b_ : (List Int)) (r : Source) (h : index_From b_ = some r) : Runs L F25.body ⟨tmOf [.d (.sl (List.map (D.int .u8) b_))] 0, updW (fun _ => none) []⟩ (index_From_Q b_ r) := by
  unfold index_From at h
  refine Runs.seq ?_
  refine Runs.ops ?_
  refine RunAt.chunk 1 [⟨.nilp, []⟩] (by kernel_rfl) ?_
  refine RunAt.done (by kernel_rfl) ?_
  refine kS_nrm ?_
  refine Runs.seq ?_
  refine Runs.ops ?_
  refine RunAt.chunk 1 [⟨.d (.sl (List.map (D.int .u8) b_)), []⟩] (by kernel_rfl) ?_
  obtain ⟨z_1, hz_1, h⟩ := bind_s h
  refine RunAt.cut (some 4) (.append 1 1 false) [] none [.nils, .d (.sl (List.map (D.int .u8) b_))] (.ref [4] 0 0 (List.map (D.int .u8) z_1).length 1) [([4], some (.arr (List.map (D.int .u8) z_1) 0 false))] (by kernel_rfl) (by kernel_rfl) (by kernel_rfl) (cut_appN (e := (D.int .u8)) (ws := []) (ap_data _) (fun _ => rfl) hz_1 (by kernel_rfl)) ?_
  refine RunAt.chunk 3 [⟨.mix [.ref [4] 0 0 (List.map (D.int .u8) z_1).length 1, .d (.int .i64 0)], []⟩, ⟨.ptr [6] 0 0, [([6], some (.cells [.ref [4] 0 0 (List.map (D.int .u8) z_1).length 1, .d (.int .i64 0)] 0))]⟩, ⟨.ptr [6] 0 0, []⟩] (by kernel_rfl) ?_
  refine RunAt.done (by kernel_rfl) ?_
  refine kS_nrm ?_
  refine Runs.seq ?_
  refine Runs.gcons (frzB_ref (e := (D.int .u8)) (l := z_1) (id := [6]) (id' := [4]) (v := 0) (n := 1) (fz := false) (ver := 0) (cs := [.ref [4] 0 0 (List.map (D.int .u8) z_1).length 1, .d (.int .i64 0)]) (cs' := [.d (.sl (List.map (D.int .u8) z_1)), .d (.int .i64 0)]) (by kernel_rfl) (by kernel_rfl) (by kernel_rfl) (by decide) (by kernel_rfl) rfl) ?_
  refine Runs.gnil ?_
  refine kS_nrm ?_
  refine Runs.ret ?_
  obtain rfl := Option.some.inj h
  exact ⟨Out.ret_ne, (by kernel_rfl)⟩
theorem index_From_L (b_ : (List Int)) (r : Source) (h : index_From b_ = some r) : L 25 [.d (.sl (List.map (D.int .u8) b_))] = some (.ptr [.d (.sl (List.map (D.int .u8) r.b)), .d (.int .i64 r.e)], [.d (.sl (List.map (D.int .u8) b_))]) := by
  obtain ⟨p, ⟨hne, hf⟩, hr⟩ := index_From_ok b_ r h
  obtain ⟨k, hk⟩ := run_of (F := F25) (args := [.d (.sl (List.map (D.int .u8) b_))]) (ap := [.d (.sl (List.map (D.int .u8) b_))]) (bx0 := updW (fun _ => none) []) rfl rfl (by kernel_rfl) ⟨p, ⟨hne, hf⟩, hr⟩
  exact lim_run (k := k) rfl hk
def index_Source_Wrong_Q (s_ : Source) (e_ : Int) (r : Source) (p : Out × St) : Prop := (∀ i, p.1 ≠ .exit i) ∧ finF F27 [.ptr [0] 0 0, .d (.int .i64 e_)] p.2 = some (.tup [], [.ptr [.d (.sl (List.map (D.int .u8) r.b)), .d (.int .i64 r.e)], .d (.int .i64 e_)])
theorem index_Source_Wrong_ok (s_ : Source) (e_ : Int) (r : Source) (h : index_Source_Wrong s_ e_ = some r) : Runs L F27.body ⟨tmOf [.ptr [0] 0 0, .d (.int .i64 e_)] 0, updW (fun _ => none) [([0], some (.cells [.d (.sl (List.map (D.int .u8) s_.b)), .d (.int .i64 s_.e)] 0))]⟩ (index_Source_Wrong_Q s_ e_ r) := by
  unfold index_Source_Wrong at h
  refine Runs.seq ?_
  refine Runs.seq ?_
  refine Runs.ops ?_
  refine RunAt.chunk 10 [⟨.ptr [0] 0 0, []⟩, ⟨.d (.bool true), []⟩, ⟨.d (.bool true), []⟩, ⟨.ptr [0] 0 0, []⟩, ⟨.ptr [0] 0 0, []⟩, ⟨.ptr [0] 0 1, []⟩, ⟨.d (.int .i64 s_.e), []⟩, ⟨.d (.bool (s_.e == 0)), []⟩, ⟨.d (.bool (s_.e == 0)), []⟩, ⟨.d (.bool (s_.e == 0)), []⟩] (by kernel_rfl) ?_
  cases hb_1 : ((s_.e == 0) : Bool) with
  | true =>
    replace h := ite_t hb_1 h
    refine RunAt.chunk 3 [⟨.d (.int .i64 e_), []⟩, ⟨.d (.bool (e_ != 0)), []⟩, ⟨.d (.bool (e_ != 0)), []⟩] (by kernel_rfl) ?_
    refine RunAt.done (by kernel_rfl) ?_
    refine kS_nrm ?_
    cases hb_2 : ((e_ != 0) : Bool) with
    | true =>
      replace h := ite_t hb_2 h
      refine Runs.cond_t (by kernel_rfl) ?_
      refine Runs.ops ?_
      refine RunAt.chunk 9 [⟨.ptr [0] 0 0, []⟩, ⟨.ptr [0] 0 0, []⟩, ⟨.d (.int .i64 e_), []⟩, ⟨.ptr [0] 0 0, []⟩, ⟨.ptr [0] 0 1, []⟩, ⟨.tup [], [([0], some (.cells [.d (.sl (List.map (D.int .u8) s_.b)), .d (.int .i64 e_)] 0))]⟩, ⟨.ptr [0] 0 0, []⟩, ⟨.ptr [0] 0 0, []⟩, ⟨.tup [], [([0], some (.cells [.nils, .d (.int .i64 e_)] 0))]⟩] (by kernel_rfl) ?_
      refine RunAt.done (by kernel_rfl) ?_
      refine kS_nrm ?_
      refine Runs.gcons (frzB_nil (ver := 0) (cs := [.nils, .d (.int .i64 e_)]) (cs' := [.d (.sl (List.map (D.int .u8) ([] : List Int))), .d (.int .i64 e_)]) (D.int .u8) (by kernel_rfl) (by kernel_rfl) (by kernel_rfl)) ?_
      refine Runs.gnil ?_
      obtain rfl := Option.some.inj h
      exact ⟨Out.nrm_ne, (by kernel_rfl)⟩
    | false =>
      replace h := ite_f hb_2 h
      refine Runs.cond_f (by kernel_rfl) ?_
      refine Runs.skip ?_
      refine kS_nrm ?_
      refine Runs.gsame (by kernel_rfl) ?_
      refine Runs.gnil ?_
      obtain rfl := Option.some.inj h
      exact ⟨Out.nrm_ne, (by kernel_rfl)⟩
  | false =>
    replace h := ite_f hb_1 h
    refine RunAt.chunk 3 [⟨.tup [], []⟩, ⟨.tup [], []⟩, ⟨.d (.bool false), []⟩] (by kernel_rfl) ?_
    refine RunAt.done (by kernel_rfl) ?_
    refine kS_nrm ?_
    refine Runs.cond_f (by kernel_rfl) ?_
    refine Runs.skip ?_
    refine kS_nrm ?_
    refine Runs.gsame (by kernel_rfl) ?_
    refine Runs.gnil ?_
    obtain rfl := Option.some.inj h
    exact ⟨Out.nrm_ne, (by kernel_rfl)⟩
theorem index_Source_Wrong_L (s_ : Source) (e_ : Int) (r : Source) (h : index_Source_Wrong s_ e_ = some r) : L 27 [.ptr [.d (.sl (List.map (D.int .u8) s_.b)), .d (.int .i64 s_.e)], .d (.int .i64 e_)] = some (.tup [], [.ptr [.d (.sl (List.map (D.int .u8) r.b)), .d (.int .i64 r.e)], .d (.int .i64 e_)]) := by
  obtain ⟨p, ⟨hne, hf⟩, hr⟩ := index_Source_Wrong_ok s_ e_ r h
  obtain ⟨k, hk⟩ := run_of (F := F27) (args := [.ptr [.d (.sl (List.map (D.int .u8) s_.b)), .d (.int .i64 s_.e)], .d (.int .i64 e_)]) (ap := [.ptr [0] 0 0, .d (.int .i64 e_)]) (bx0 := updW (fun _ => none) [([0], some (.cells [.d (.sl (List.map (D.int .u8) s_.b)), .d (.int .i64 s_.e)] 0))]) rfl rfl (by kernel_rfl) ⟨p, ⟨hne, hf⟩, hr⟩
  exact lim_run (k := k) rfl hk
def index_Source_Take_Q (s_ : Source) (n_ : Int) (r : ((List Int) × Source)) (p : Out × St) : Prop := (∀ i, p.1 ≠ .exit i) ∧ finF F26 [.ptr [0] 0 0, .d (.int .i64 n_)] p.2 = some (.d (.sl (List.map (D.int .u8) r.1)), [.ptr [.d (.sl (List.map (D.int .u8) r.2.b)), .d (.int .i64 r.2.e)], .d (.int .i64 n_)])
theorem index_Source_Take_ok (s_ : Source) (n_ : Int) (r : ((List Int) × Source)) (h : index_Source_Take s_ n_ = some r) : Runs L F26.body ⟨tmOf [.ptr [0] 0 0, .d (.int .i64 n_)] 0, updW (fun _ => none) [([0], some (.cells [.d (.sl (List.map (D.int .u8) s_.b)), .d (.int .i64 s_.e)] 0))]⟩ (index_Source_Take_Q s_ n_ r) := by
  unfold index_Source_Take at h
  refine Runs.seq ?_
  refine Runs.ops ?_
  refine RunAt.chunk 1 [⟨.nils, []⟩] (by kernel_rfl) ?_
  refine RunAt.done (by kernel_rfl) ?_
  refine kS_nrm ?_
  refine Runs.seq ?_
  refine Runs.seq ?_
  refine Runs.ops ?_
  refine RunAt.chunk 2 [⟨.ptr [0] 0 0, []⟩, ⟨.d (.bool false), []⟩] (by kernel_rfl) ?_
  refine RunAt.done (by kernel_rfl) ?_
  refine kS_nrm ?_
  refine Runs.cond_f (by kernel_rfl) ?_
  refine Runs.skip ?_
  refine kS_nrm ?_
  refine Runs.seq ?_
  refine Runs.seq ?_
  refine Runs.ops ?_
  refine RunAt.chunk 3 [⟨.d (.int .i64 n_), []⟩, ⟨.d (.bool (decide (n_ < 0))), []⟩, ⟨.d (.bool (decide (n_ < 0))), []⟩] (by kernel_rfl) ?_
  cases hb_1 : ((decide (n_ < 0)) : Bool) with
  | true =>
    replace h := ite_t hb_1 h
    refine RunAt.chunk 8 [⟨.tup [], []⟩, ⟨.tup [], []⟩, ⟨.tup [], []⟩, ⟨.tup [], []⟩, ⟨.tup [], []⟩, ⟨.tup [], []⟩, ⟨.tup [], []⟩, ⟨.d (.bool true), []⟩] (by kernel_rfl) ?_
    refine RunAt.done (by kernel_rfl) ?_
    refine kS_nrm ?_
    refine Runs.cond_t (by kernel_rfl) ?_
    refine Runs.seq ?_
    refine Runs.ops ?_
    refine RunAt.chunk 1 [⟨.ptr [0] 0 0, []⟩] (by kernel_rfl) ?_
    obtain ⟨r_1, hr_1, h⟩ := bind_s h
    have hc_1 := index_Source_Wrong_L s_ 2 r_1 hr_1
    refine RunAt.cut (some 20) (.callf 27) [] none [.ptr [0] 0 0, .d (.int .i64 2)] (.tup []) [([0], some (.cells [.d (.sl (List.map (D.int .u8) r_1.b)), .d (.int .i64 r_1.e)] 0))] (by kernel_rfl) (by kernel_rfl) (by kernel_rfl) (cut_call (call_of (ws := []) (us := [([0], some (.cells [.d (.sl (List.map (D.int .u8) r_1.b)), .d (.int .i64 r_1.e)] 0))]) (by kernel_rfl) (by kernel_rfl) hc_1 (by kernel_rfl) (by kernel_rfl))) ?_
    refine RunAt.done (by kernel_rfl) ?_
    refine kS_nrm ?_
    refine Runs.seq ?_
    refine Runs.ops ?_
    refine RunAt.chunk 1 [⟨.nils, []⟩] (by kernel_rfl) ?_
    refine RunAt.done (by kernel_rfl) ?_
    refine kS_nrm ?_
    refine Runs.seq ?_
    refine Runs.gcons (frz_nil (D.int .u8) (by kernel_rfl)) ?_
    refine Runs.gnil ?_
    refine kS_nrm ?_
    refine Runs.ret ?_
    refine kS_ret ?_
    obtain rfl := Option.some.inj h
    exact ⟨Out.ret_ne, (by kernel_rfl)⟩
  | false =>
    replace h := ite_f hb_1 h
    refine RunAt.chunk 5 [⟨.d (.int .i64 n_), []⟩, ⟨.ptr [0] 0 0, []⟩, ⟨.ptr [0] 0 0, []⟩, ⟨.ptr [0] 0 0, []⟩, ⟨.d (.sl (List.map (D.int .u8) s_.b)), []⟩] (by kernel_rfl) ?_
    refine RunAt.cut (some 16) .lenL [] none [.d (.sl (List.map (D.int .u8) s_.b))] (.d (.int .i64 (s_.b.length : Int))) [] (by kernel_rfl) (by kernel_rfl) (by kernel_rfl) (cut_len _) ?_
    refine RunAt.chunk 2 [⟨.d (.bool (decide (n_ > (s_.b.length : Int)))), []⟩, ⟨.d (.bool (decide (n_ > (s_.b.length : Int)))), []⟩] (by kernel_rfl) ?_
    refine RunAt.done (by kernel_rfl) ?_
    refine kS_nrm ?_
    cases hb_2 : ((decide (n_ > (s_.b.length : Int))) : Bool) with
    | true =>
      replace h := ite_t hb_2 h
      refine Runs.cond_t (by kernel_rfl) ?_
      refine Runs.seq ?_
      refine Runs.ops ?_
      refine RunAt.chunk 1 [⟨.ptr [0] 0 0, []⟩] (by kernel_rfl) ?_
      obtain ⟨r_2, hr_2, h⟩ := bind_s h
      have hc_2 := index_Source_Wrong_L s_ 2 r_2 hr_2
      refine RunAt.cut (some 20) (.callf 27) [] none [.ptr [0] 0 0, .d (.int .i64 2)] (.tup []) [([0], some (.cells [.d (.sl (List.map (D.int .u8) r_2.b)), .d (.int .i64 r_2.e)] 0))] (by kernel_rfl) (by kernel_rfl) (by kernel_rfl) (cut_call (call_of (ws := []) (us := [([0], some (.cells [.d (.sl (List.map (D.int .u8) r_2.b)), .d (.int .i64 r_2.e)] 0))]) (by kernel_rfl) (by kernel_rfl) hc_2 (by kernel_rfl) (by kernel_rfl))) ?_
      refine RunAt.done (by kernel_rfl) ?_
      refine kS_nrm ?_
      refine Runs.seq ?_
      refine Runs.ops ?_
      refine RunAt.chunk 1 [⟨.nils, []⟩] (by kernel_rfl) ?_
      refine RunAt.done (by kernel_rfl) ?_
      refine kS_nrm ?_
      refine Runs.seq ?_
      refine Runs.gcons (frz_nil (D.int .u8) (by kernel_rfl)) ?_
      refine Runs.gnil ?_
      refine kS_nrm ?_
      refine Runs.ret ?_
      refine kS_ret ?_
      obtain rfl := Option.some.inj h
      exact ⟨Out.ret_ne, (by kernel_rfl)⟩
    | false =>
      replace h := ite_f hb_2 h
      refine Runs.cond_f (by kernel_rfl) ?_
      refine Runs.skip ?_
      refine kS_nrm ?_
      refine Runs.seq ?_
      refine Runs.ops ?_
      refine RunAt.chunk 6 [⟨.ptr [0] 0 0, []⟩, ⟨.ptr [0] 0 0, []⟩, ⟨.ptr [0] 0 0, []⟩, ⟨.d (.sl (List.map (D.int .u8) s_.b)), []⟩, ⟨.d (.int .i64 n_), []⟩, ⟨.d (.int .i64 n_), []⟩] (by kernel_rfl) ?_
      obtain ⟨z_1, hz_1, h⟩ := bind_s h
      refine RunAt.cut (some 27) (.subsl 1 false true true) [] none [.d (.sl (List.map (D.int .u8) s_.b)), .d (.int .i64 n_), .d (.int .i64 n_)] (.d (.sl (List.map (D.int .u8) z_1))) [] (by kernel_rfl) (by kernel_rfl) (by kernel_rfl) (cut_slFTT hz_1 (fun _ => rfl)) ?_
      refine RunAt.chunk 1 [⟨.d (.sl (List.map (D.int .u8) z_1)), []⟩] (by kernel_rfl) ?_
      refine RunAt.done (by kernel_rfl) ?_
      refine kS_nrm ?_
      refine Runs.seq ?_
      refine Runs.ops ?_
      refine RunAt.chunk 6 [⟨.ptr [0] 0 0, []⟩, ⟨.ptr [0] 0 0, []⟩, ⟨.ptr [0] 0 0, []⟩, ⟨.ptr [0] 0 0, []⟩, ⟨.d (.sl (List.map (D.int .u8) s_.b)), []⟩, ⟨.d (.int .i64 n_), []⟩] (by kernel_rfl) ?_
      obtain ⟨z_2, hz_2, h⟩ := bind_s h
      refine RunAt.cut (some 34) (.subsl 1 true false false) [] none [.d (.sl (List.map (D.int .u8) s_.b)), .d (.int .i64 n_)] (.d (.sl (List.map (D.int .u8) z_2))) [] (by kernel_rfl) (by kernel_rfl) (by kernel_rfl) (cut_slTF hz_2 (fun _ => rfl)) ?_
      refine RunAt.chunk 3 [⟨.ptr [0] 0 0, []⟩, ⟨.ptr [0] 0 0, []⟩, ⟨.tup [], [([0], some (.cells [.d (.sl (List.map (D.int .u8) z_2)), .d (.int .i64 s_.e)] 0))]⟩] (by kernel_rfl) ?_
      refine RunAt.done (by kernel_rfl) ?_
      refine kS_nrm ?_
      refine Runs.seq ?_
      refine Runs.ops ?_
      refine RunAt.chunk 2 [⟨.d (.sl (List.map (D.int .u8) z_1)), []⟩, ⟨.d (.sl (List.map (D.int .u8) z_1)), []⟩] (by kernel_rfl) ?_
      refine RunAt.done (by kernel_rfl) ?_
      refine kS_nrm ?_
      refine Runs.ret ?_
      obtain rfl := Option.some.inj h
      exact ⟨Out.ret_ne, (by kernel_rfl)⟩
theorem index_Source_Take_L (s_ : Source) (n_ : Int) (r : ((List Int) × Source)) (h : index_Source_Take s_ n_ = some r) : L 26 [.ptr [.d (.sl (List.map (D.int .u8) s_.b)), .d (.int .i64 s_.e)], .d (.int .i64 n_)] = some (.d (.sl (List.map (D.int .u8) r.1)), [.ptr [.d (.sl (List.map (D.int .u8) r.2.b)), .d (.int .i64 r.2.e)], .d (.int .i64 n_)]) := by
  obtain ⟨p, ⟨hne, hf⟩, hr⟩ := index_Source_Take_ok s_ n_ r h
  obtain ⟨k, hk⟩ := run_of (F := F26) (args := [.ptr [.d (.sl (List.map (D.int .u8) s_.b)), .d (.int .i64 s_.e)], .d (.int .i64 n_)]) (ap := [.ptr [0] 0 0, .d (.int .i64 n_)]) (bx0 := updW (fun _ => none) [([0], some (.cells [.d (.sl (List.map (D.int .u8) s_.b)), .d (.int .i64 s_.e)] 0))]) rfl rfl (by kernel_rfl) ⟨p, ⟨hne, hf⟩, hr⟩
  exact lim_run (k := k) rfl hk
def index_Source_Byte_Q (s_ : Source) (r : (Int × Source)) (p : Out × St) : Prop := (∀ i, p.1 ≠ .exit i) ∧ finF F35 [.ptr [0] 0 0] p.2 = some (.d (.int .u8 r.1), [.ptr [.d (.sl (List.map (D.int .u8) r.2.b)), .d (.int .i64 r.2.e)]])
theorem index_Source_Byte_ok (s_ : Source) (r : (Int × Source)) (h : index_Source_Byte s_ = some r) : Runs L F35.body ⟨tmOf [.ptr [0] 0 0] 0, updW (fun _ => none) [([0], some (.cells [.d (.sl (List.map (D.int .u8) s_.b)), .d (.int .i64 s_.e)] 0))]⟩ (index_Source_Byte_Q s_ r) := by
  unfold index_Source_Byte at h
  refine Runs.seq ?_
  refine Runs.ops ?_
  refine RunAt.chunk 1 [⟨.d (.int .u8 0), []⟩] (by kernel_rfl) ?_
  refine RunAt.done (by kernel_rfl) ?_
  refine kS_nrm ?_
  refine Runs.seq ?_
  refine Runs.seq ?_
  refine Runs.ops ?_
  refine RunAt.chunk 1 [⟨.ptr [0] 0 0, []⟩] (by kernel_rfl) ?_
  obtain ⟨r_1, hr_1, h⟩ := bind_s h
  have hc_1 := index_Source_Take_L s_ 1 r_1 hr_1
  refine RunAt.cut (some 5) (.callf 26) [] none [.ptr [0] 0 0, .d (.int .i64 1)] (.d (.sl (List.map (D.int .u8) r_1.1))) [([0], some (.cells [.d (.sl (List.map (D.int .u8) r_1.2.b)), .d (.int .i64 r_1.2.e)] 0))] (by kernel_rfl) (by kernel_rfl) (by kernel_rfl) (cut_call (call_of (ws := []) (us := [([0], some (.cells [.d (.sl (List.map (D.int .u8) r_1.2.b)), .d (.int .i64 r_1.2.e)] 0))]) (by kernel_rfl) (by kernel_rfl) hc_1 (by kernel_rfl) (by kernel_rfl))) ?_
  refine RunAt.chunk 1 [⟨.d (.sl (List.map (D.int .u8) r_1.1)), []⟩] (by kernel_rfl) ?_
  refine RunAt.done (by kernel_rfl) ?_
  refine kS_nrm ?_
  refine Runs.seq ?_
  refine Runs.ops ?_
  refine RunAt.chunk 1 [⟨.d (.sl (List.map (D.int .u8) r_1.1)), []⟩] (by kernel_rfl) ?_
  refine RunAt.cut (some 7) .lenL [] none [.d (.sl (List.map (D.int .u8) r_1.1))] (.d (.int .i64 (r_1.1.length : Int))) [] (by kernel_rfl) (by kernel_rfl) (by kernel_rfl) (cut_len _) ?_
  refine RunAt.chunk 1 [⟨.d (.bool ((r_1.1.length : Int) == 1)), []⟩] (by kernel_rfl) ?_
  refine RunAt.done (by kernel_rfl) ?_
  refine kS_nrm ?_
  cases hb_1 : (((r_1.1.length : Int) == 1) : Bool) with
  | true =>
    replace h := ite_t hb_1 h
    refine Runs.cond_t (by kernel_rfl) ?_
    refine Runs.seq ?_
    refine Runs.ops ?_
    refine RunAt.chunk 1 [⟨.d (.sl (List.map (D.int .u8) r_1.1)), []⟩] (by kernel_rfl) ?_
    obtain ⟨z_1, hz_1, h⟩ := bind_s h
    refine RunAt.cut (some 10) (.iaddrS 1) [] none [.d (.sl (List.map (D.int .u8) r_1.1)), .d (.int .i64 0)] (.elt (.int .u8 z_1) 0) [] (by kernel_rfl) (by kernel_rfl) (by kernel_rfl) (cut_at hz_1 (fun _ => rfl)) ?_
    refine RunAt.chunk 2 [⟨.d (.int .u8 z_1), []⟩, ⟨.d (.int .u8 z_1), []⟩] (by kernel_rfl) ?_
    refine RunAt.done (by kernel_rfl) ?_
    refine kS_nrm ?_
    refine Runs.ret ?_
    refine kS_ret ?_
    obtain rfl := Option.some.inj h
    exact ⟨Out.ret_ne, (by kernel_rfl)⟩
  | false =>
    replace h := ite_f hb_1 h
    refine Runs.cond_f (by kernel_rfl) ?_
    refine Runs.skip ?_
    refine kS_nrm ?_
    refine Runs.seq ?_
    refine Runs.ops ?_
    refine RunAt.chunk 1 [⟨.d (.int .u8 0), []⟩] (by kernel_rfl) ?_
    refine RunAt.done (by kernel_rfl) ?_
    refine kS_nrm ?_
    refine Runs.ret ?_
    obtain rfl := Option.some.inj h
    exact ⟨Out.ret_ne, (by kernel_rfl)⟩
theorem index_Source_Byte_L (s_ : Source) (r : (Int × Source)) (h : index_Source_Byte s_ = some r) : L 35 [.ptr [.d (.sl (List.map (D.int .u8) s_.b)), .d (.int .i64 s_.e)]] = some (.d (.int .u8 r.1), [.ptr [.d (.sl (List.map (D.int .u8) r.2.b)), .d (.int .i64 r.2.e)]]) := by
  obtain ⟨p, ⟨hne, hf⟩, hr⟩ := index_Source_Byte_ok s_ r h
  obtain ⟨k, hk⟩ := run_of (F := F35) (args := [.ptr [.d (.sl (List.map (D.int .u8) s_.b)), .d (.int .i64 s_.e)]]) (ap := [.ptr [0] 0 0]) (bx0 := updW (fun _ => none) [([0], some (.cells [.d (.sl (List.map (D.int .u8) s_.b)), .d (.int .i64 s_.e)] 0))]) rfl rfl (by kernel_rfl) ⟨p, ⟨hne, hf⟩, hr⟩
  exact lim_run (k := k) rfl hk
def bits_Word_Q (low_ : Int) (high_ : Int) (r : Int) (p : Out × St) : Prop := (∀ i, p.1 ≠ .exit i) ∧ finF F69 [.d (.int .u8 low_), .d (.int .u8 high_)] p.2 = some (.d (.int .u16 r), [.d (.int .u8 low_), .d (.int .u8 high_)])
theorem bits_Word_ok (low_ : Int) (high_ : Int) (r : Int) (h : bits_Word low_ high_ = some r) : Runs L F69.body ⟨tmOf [.d (.int .u8 low_), .d (.int .u8 high_)] 0, updW (fun _ => none) []⟩ (bits_Word_Q low_ high_ r) := by
  unfold bits_Word at h
  refine Runs.seq ?_
  refine Runs.ops ?_
  refine RunAt.chunk 1 [⟨.d (.int .u16 0), []⟩] (by kernel_rfl) ?_
  refine RunAt.done (by kernel_rfl) ?_
  refine kS_nrm ?_
  refine Runs.seq ?_
  refine Runs.ops ?_
  refine RunAt.chunk 7 [⟨.d (.int .u8 low_), []⟩, ⟨.d (.int .u16 (IntKind.wrap .u16 low_)), []⟩, ⟨.d (.int .u8 high_), []⟩, ⟨.d (.int .u16 (IntKind.wrap .u16 high_)), []⟩, ⟨.d (.int .u16 (shlI .u16 (IntKind.wrap .u16 high_) 8)), []⟩, ⟨.d (.int .u16 (bitsOp .or .u16 (IntKind.wrap .u16 low_) (shlI .u16 (IntKind.wrap .u16 high_) 8))), []⟩, ⟨.d (.int .u16 (bitsOp .or .u16 (IntKind.wrap .u16 low_) (shlI .u16 (IntKind.wrap .u16 high_) 8))), []⟩] (by kernel_rfl) ?_
  refine RunAt.done (by kernel_rfl) ?_
  refine kS_nrm ?_
  refine Runs.ret ?_
  obtain rfl := Option.some.inj h
  exact ⟨Out.ret_ne, (by kernel_rfl)⟩
theorem bits_Word_L (low_ : Int) (high_ : Int) (r : Int) (h : bits_Word low_ high_ = some r) : L 69 [.d (.int .u8 low_), .d (.int .u8 high_)] = some (.d (.int .u16 r), [.d (.int .u8 low_), .d (.int .u8 high_)]) := by
  obtain ⟨p, ⟨hne, hf⟩, hr⟩ := bits_Word_ok low_ high_ r h
  obtain ⟨k, hk⟩ := run_of (F := F69) (args := [.d (.int .u8 low_), .d (.int .u8 high_)]) (ap := [.d (.int .u8 low_), .d (.int .u8 high_)]) (bx0 := updW (fun _ => none) []) rfl rfl (by kernel_rfl) ⟨p, ⟨hne, hf⟩, hr⟩
  exact lim_run (k := k) rfl hk
def index_Source_Word_Q (s_ : Source) (r : (Int × Source)) (p : Out × St) : Prop := (∀ i, p.1 ≠ .exit i) ∧ finF F30 [.ptr [0] 0 0] p.2 = some (.d (.int .u16 r.1), [.ptr [.d (.sl (List.map (D.int .u8) r.2.b)), .d (.int .i64 r.2.e)]])
theorem index_Source_Word_ok (s_ : Source) (r : (Int × Source)) (h : index_Source_Word s_ = some r) : Runs L F30.body ⟨tmOf [.ptr [0] 0 0] 0, updW (fun _ => none) [([0], some (.cells [.d (.sl (List.map (D.int .u8) s_.b)), .d (.int .i64 s_.e)] 0))]⟩ (index_Source_Word_Q s_ r) := by
  unfold index_Source_Word at h
  refine Runs.seq ?_
  refine Runs.ops ?_
  refine RunAt.chunk 1 [⟨.d (.int .u16 0), []⟩] (by kernel_rfl) ?_
  refine RunAt.done (by kernel_rfl) ?_
  refine kS_nrm ?_
  refine Runs.seq ?_
  refine Runs.seq ?_
  refine Runs.ops ?_
  refine RunAt.chunk 1 [⟨.ptr [0] 0 0, []⟩] (by kernel_rfl) ?_
  obtain ⟨r_1, hr_1, h⟩ := bind_s h
  have hc_1 := index_Source_Take_L s_ 2 r_1 hr_1
  refine RunAt.cut (some 5) (.callf 26) [] none [.ptr [0] 0 0, .d (.int .i64 2)] (.d (.sl (List.map (D.int .u8) r_1.1))) [([0], some (.cells [.d (.sl (List.map (D.int .u8) r_1.2.b)), .d (.int .i64 r_1.2.e)] 0))] (by kernel_rfl) (by kernel_rfl) (by kernel_rfl) (cut_call (call_of (ws := []) (us := [([0], some (.cells [.d (.sl (List.map (D.int .u8) r_1.2.b)), .d (.int .i64 r_1.2.e)] 0))]) (by kernel_rfl) (by kernel_rfl) hc_1 (by kernel_rfl) (by kernel_rfl))) ?_
  refine RunAt.chunk 1 [⟨.d (.sl (List.map (D.int .u8) r_1.1)), []⟩] (by kernel_rfl) ?_
  refine RunAt.done (by kernel_rfl) ?_
  refine kS_nrm ?_
  refine Runs.seq ?_
  refine Runs.ops ?_
  refine RunAt.chunk 1 [⟨.d (.sl (List.map (D.int .u8) r_1.1)), []⟩] (by kernel_rfl) ?_
  refine RunAt.cut (some 7) .lenL [] none [.d (.sl (List.map (D.int .u8) r_1.1))] (.d (.int .i64 (r_1.1.length : Int))) [] (by kernel_rfl) (by kernel_rfl) (by kernel_rfl) (cut_len _) ?_
  refine RunAt.chunk 1 [⟨.d (.bool ((r_1.1.length : Int) == 2)), []⟩] (by kernel_rfl) ?_
  refine RunAt.done (by kernel_rfl) ?_
  refine kS_nrm ?_
  cases hb_1 : (((r_1.1.length : Int) == 2) : Bool) with
  | true =>
    replace h := ite_t hb_1 h
    refine Runs.cond_t (by kernel_rfl) ?_
    refine Runs.seq ?_
    refine Runs.ops ?_
    refine RunAt.chunk 1 [⟨.d (.sl (List.map (D.int .u8) r_1.1)), []⟩] (by kernel_rfl) ?_
    obtain ⟨z_1, hz_1, h⟩ := bind_s h
    refine RunAt.cut (some 10) (.iaddrS 1) [] none [.d (.sl (List.map (D.int .u8) r_1.1)), .d (.int .i64 0)] (.elt (.int .u8 z_1) 0) [] (by kernel_rfl) (by kernel_rfl) (by kernel_rfl) (cut_at hz_1 (fun _ => rfl)) ?_
    refine RunAt.chunk 2 [⟨.d (.int .u8 z_1), []⟩, ⟨.d (.sl (List.map (D.int .u8) r_1.1)), []⟩] (by kernel_rfl) ?_
    obtain ⟨z_2, hz_2, h⟩ := bind_s h
    refine RunAt.cut (some 13) (.iaddrS 1) [] none [.d (.sl (List.map (D.int .u8) r_1.1)), .d (.int .i64 1)] (.elt (.int .u8 z_2) 0) [] (by kernel_rfl) (by kernel_rfl) (by kernel_rfl) (cut_at hz_2 (fun _ => rfl)) ?_
    refine RunAt.chunk 1 [⟨.d (.int .u8 z_2), []⟩] (by kernel_rfl) ?_
    obtain ⟨r_2, hr_2, h⟩ := bind_s h
    have hc_2 := bits_Word_L z_1 z_2 r_2 hr_2
    refine RunAt.cut (some 15) (.callf 69) [] none [.d (.int .u8 z_1), .d (.int .u8 z_2)] (.d (.int .u16 r_2)) [] (by kernel_rfl) (by kernel_rfl) (by kernel_rfl) (cut_call (call_of (ws := []) (us := []) (by kernel_rfl) (by kernel_rfl) hc_2 (by kernel_rfl) (by kernel_rfl))) ?_
    refine RunAt.chunk 1 [⟨.d (.int .u16 r_2), []⟩] (by kernel_rfl) ?_
    refine RunAt.done (by kernel_rfl) ?_
    refine kS_nrm ?_
    refine Runs.ret ?_
    refine kS_ret ?_
    obtain rfl := Option.some.inj h
    exact ⟨Out.ret_ne, (by kernel_rfl)⟩
  | false =>
    replace h := ite_f hb_1 h
    refine Runs.cond_f (by kernel_rfl) ?_
    refine Runs.skip ?_
    refine kS_nrm ?_
    refine Runs.seq ?_
    refine Runs.ops ?_
    refine RunAt.chunk 1 [⟨.d (.int .u16 0), []⟩] (by kernel_rfl) ?_
    refine RunAt.done (by kernel_rfl) ?_
    refine kS_nrm ?_
    refine Runs.ret ?_
    obtain rfl := Option.some.inj h
    exact ⟨Out.ret_ne, (by kernel_rfl)⟩
theorem index_Source_Word_L (s_ : Source) (r : (Int × Source)) (h : index_Source_Word s_ = some r) : L 30 [.ptr [.d (.sl (List.map (D.int .u8) s_.b)), .d (.int .i64 s_.e)]] = some (.d (.int .u16 r.1), [.ptr [.d (.sl (List.map (D.int .u8) r.2.b)), .d (.int .i64 r.2.e)]]) := by
  obtain ⟨p, ⟨hne, hf⟩, hr⟩ := index_Source_Word_ok s_ r h
  obtain ⟨k, hk⟩ := run_of (F := F30) (args := [.ptr [.d (.sl (List.map (D.int .u8) s_.b)), .d (.int .i64 s_.e)]]) (ap := [.ptr [0] 0 0]) (bx0 := updW (fun _ => none) [([0], some (.cells [.d (.sl (List.map (D.int .u8) s_.b)), .d (.int .i64 s_.e)] 0))]) rfl rfl (by kernel_rfl) ⟨p, ⟨hne, hf⟩, hr⟩
  exact lim_run (k := k) rfl hk
def index_Source_Err_Q (s_ : Source) (r : Int) (p : Out × St) : Prop := (∀ i, p.1 ≠ .exit i) ∧ finF F28 [.ptr [0] 0 0] p.2 = some (.d (.int .i64 r), [.ptr [.d (.sl (List.map (D.int .u8) s_.b)), .d (.int .i64 s_.e)]])
theorem index_Source_Err_ok (s_ : Source) (r : Int) (h : index_Source_Err s_ = some r) : Runs L F28.body ⟨tmOf [.ptr [0] 0 0] 0, updW (fun _ => none) [([0], some (.cells [.d (.sl (List.map (D.int .u8) s_.b)), .d (.int .i64 s_.e)] 0))]⟩ (index_Source_Err_Q s_ r) := by
  unfold index_Source_Err at h
  refine Runs.seq ?_
  refine Runs.ops ?_
  refine RunAt.chunk 1 [⟨.d (.int .i64 0), []⟩] (by kernel_rfl) ?_
  refine RunAt.done (by kernel_rfl) ?_
  refine kS_nrm ?_
  refine Runs.seq ?_
  refine Runs.seq ?_
  refine Runs.ops ?_
  refine RunAt.chunk 2 [⟨.ptr [0] 0 0, []⟩, ⟨.d (.bool false), []⟩] (by kernel_rfl) ?_
  refine RunAt.done (by kernel_rfl) ?_
  refine kS_nrm ?_
  refine Runs.cond_f (by kernel_rfl) ?_
  refine Runs.skip ?_
  refine kS_nrm ?_
  refine Runs.seq ?_
  refine Runs.ops ?_
  refine RunAt.chunk 5 [⟨.ptr [0] 0 0, []⟩, ⟨.ptr [0] 0 0, []⟩, ⟨.ptr [0] 0 1, []⟩, ⟨.d (.int .i64 s_.e), []⟩, ⟨.d (.int .i64 s_.e), []⟩] (by kernel_rfl) ?_
  refine RunAt.done (by kernel_rfl) ?_
  refine kS_nrm ?_
  refine Runs.ret ?_
  obtain rfl := Option.some.inj h
  exact ⟨Out.ret_ne, (by kernel_rfl)⟩
theorem index_Source_Err_L (s_ : Source) (r : Int) (h : index_Source_Err s_ = some r) : L 28 [.ptr [.d (.sl (List.map (D.int .u8) s_.b)), .d (.int .i64 s_.e)]] = some (.d (.int .i64 r), [.ptr [.d (.sl (List.map (D.int .u8) s_.b)), .d (.int .i64 s_.e)]]) := by
  obtain ⟨p, ⟨hne, hf⟩, hr⟩ := index_Source_Err_ok s_ r h
  obtain ⟨k, hk⟩ := run_of (F := F28) (args := [.ptr [.d (.sl (List.map (D.int .u8) s_.b)), .d (.int .i64 s_.e)]]) (ap := [.ptr [0] 0 0]) (bx0 := updW (fun _ => none) [([0], some (.cells [.d (.sl (List.map (D.int .u8) s_.b)), .d (.int .i64 s_.e)] 0))]) rfl rfl (by kernel_rfl) ⟨p, ⟨hne, hf⟩, hr⟩
  exact lim_run (k := k) rfl hk
def index_Source_Index_Q (s_ : Source) (r : (Int × Source)) (p : Out × St) : Prop := (∀ i, p.1 ≠ .exit i) ∧ finF F31 [.ptr [0] 0 0] p.2 = some (.d (.int .i64 r.1), [.ptr [.d (.sl (List.map (D.int .u8) r.2.b)), .d (.int .i64 r.2.e)]])
theorem index_Source_Index_ok (s_ : Source) (r : (Int × Source)) (h : index_Source_Index s_ = some r) : Runs L F31.body ⟨tmOf [.ptr [0] 0 0] 0, updW (fun _ => none) [([0], some (.cells [.d (.sl (List.map (D.int .u8) s_.b)), .d (.int .i64 s_.e)] 0))]⟩ (index_Source_Index_Q s_ r) := by
  unfold index_Source_Index at h
  refine Runs.seq ?_
  refine Runs.ops ?_
  refine RunAt.chunk 1 [⟨.d (.int .i64 0), []⟩] (by kernel_rfl) ?_
  refine RunAt.done (by kernel_rfl) ?_
  refine kS_nrm ?_
  refine Runs.seq ?_
  refine Runs.ops ?_
  refine RunAt.chunk 1 [⟨.ptr [0] 0 0, []⟩] (by kernel_rfl) ?_
  obtain ⟨r_1, hr_1, h⟩ := bind_s h
  have hc_1 := index_Source_Byte_L s_ r_1 hr_1
  refine RunAt.cut (some 6) (.callf 35) [] none [.ptr [0] 0 0] (.d (.int .u8 r_1.1)) [([0], some (.cells [.d (.sl (List.map (D.int .u8) r_1.2.b)), .d (.int .i64 r_1.2.e)] 0))] (by kernel_rfl) (by kernel_rfl) (by kernel_rfl) (cut_call (call_of (ws := []) (us := [([0], some (.cells [.d (.sl (List.map (D.int .u8) r_1.2.b)), .d (.int .i64 r_1.2.e)] 0))]) (by kernel_rfl) (by kernel_rfl) hc_1 (by kernel_rfl) (by kernel_rfl))) ?_
  refine RunAt.chunk 2 [⟨.d (.int .i64 (IntKind.wrap .i64 r_1.1)), []⟩, ⟨.d (.int .i64 (IntKind.wrap .i64 r_1.1)), []⟩] (by kernel_rfl) ?_
  refine RunAt.done (by kernel_rfl) ?_
  refine kS_nrm ?_
  refine Runs.seq ?_
  refine Runs.seq ?_
  refine Runs.ops ?_
  refine RunAt.chunk 2 [⟨.d (.int .i64 (IntKind.wrap .i64 r_1.1)), []⟩, ⟨.d (.bool (decide ((IntKind.wrap .i64 r_1.1) < 128))), []⟩] (by kernel_rfl) ?_
  refine RunAt.done (by kernel_rfl) ?_
  refine kS_nrm ?_
  cases hb_1 : ((decide ((IntKind.wrap .i64 r_1.1) < 128)) : Bool) with
  | true =>
    replace h := ite_t hb_1 h
    refine Runs.cond_t (by kernel_rfl) ?_
    refine Runs.seq ?_
    refine Runs.ops ?_
    refine RunAt.chunk 2 [⟨.d (.int .i64 (IntKind.wrap .i64 r_1.1)), []⟩, ⟨.d (.int .i64 (IntKind.wrap .i64 r_1.1)), []⟩] (by kernel_rfl) ?_
    refine RunAt.done (by kernel_rfl) ?_
    refine kS_nrm ?_
    refine Runs.ret ?_
    refine kS_ret ?_
    obtain rfl := Option.some.inj h
    exact ⟨Out.ret_ne, (by kernel_rfl)⟩
  | false =>
    replace h := ite_f hb_1 h
    refine Runs.cond_f (by kernel_rfl) ?_
    refine Runs.skip ?_
    refine kS_nrm ?_
    refine Runs.seq ?_
    refine Runs.ops ?_
    refine RunAt.chunk 4 [⟨.d (.int .i64 (IntKind.wrap .i64 r_1.1)), []⟩, ⟨.d (.int .i64 (bitsOp .and .i64 (IntKind.wrap .i64 r_1.1) 127)), []⟩, ⟨.d (.int .i64 (shlI .i64 (bitsOp .and .i64 (IntKind.wrap .i64 r_1.1) 127) 8)), []⟩, ⟨.ptr [0] 0 0, []⟩] (by kernel_rfl) ?_
    obtain ⟨r_2, hr_2, h⟩ := bind_s h
    have hc_2 := index_Source_Byte_L r_1.2 r_2 hr_2
    refine RunAt.cut (some 15) (.callf 35) [] none [.ptr [0] 0 0] (.d (.int .u8 r_2.1)) [([0], some (.cells [.d (.sl (List.map (D.int .u8) r_2.2.b)), .d (.int .i64 r_2.2.e)] 0))] (by kernel_rfl) (by kernel_rfl) (by kernel_rfl) (cut_call (call_of (ws := []) (us := [([0], some (.cells [.d (.sl (List.map (D.int .u8) r_2.2.b)), .d (.int .i64 r_2.2.e)] 0))]) (by kernel_rfl) (by kernel_rfl) hc_2 (by kernel_rfl) (by kernel_rfl))) ?_
    refine RunAt.chunk 3 [⟨.d (.int .i64 (IntKind.wrap .i64 r_2.1)), []⟩, ⟨.d (.int .i64 (bitsOp .or .i64 (shlI .i64 (bitsOp .and .i64 (IntKind.wrap .i64 r_1.1) 127) 8) (IntKind.wrap .i64 r_2.1))), []⟩, ⟨.d (.int .i64 (bitsOp .or .i64 (shlI .i64 (bitsOp .and .i64 (IntKind.wrap .i64 r_1.1) 127) 8) (IntKind.wrap .i64 r_2.1))), []⟩] (by kernel_rfl) ?_
    refine RunAt.done (by kernel_rfl) ?_
    refine kS_nrm ?_
    refine Runs.seq ?_
    refine Runs.seq ?_
    refine Runs.ops ?_
    refine RunAt.chunk 1 [⟨.ptr [0] 0 0, []⟩] (by kernel_rfl) ?_
    obtain ⟨r_3, hr_3, h⟩ := bind_s h
    have hc_3 := index_Source_Err_L r_2.2 r_3 hr_3
    refine RunAt.cut (some 19) (.callf 28) [] none [.ptr [0] 0 0] (.d (.int .i64 r_3)) [([0], some (.cells [.d (.sl (List.map (D.int .u8) r_2.2.b)), .d (.int .i64 r_2.2.e)] 0))] (by kernel_rfl) (by kernel_rfl) (by kernel_rfl) (cut_call (call_of (ws := []) (us := [([0], some (.cells [.d (.sl (List.map (D.int .u8) r_2.2.b)), .d (.int .i64 r_2.2.e)] 0))]) (by kernel_rfl) (by kernel_rfl) hc_3 (by kernel_rfl) (by kernel_rfl))) ?_
    refine RunAt.chunk 1 [⟨.d (.bool (r_3 != 0)), []⟩] (by kernel_rfl) ?_
    refine RunAt.done (by kernel_rfl) ?_
    refine kS_nrm ?_
    cases hb_2 : ((r_3 != 0) : Bool) with
    | true =>
      replace h := ite_t hb_2 h
      refine Runs.cond_t (by kernel_rfl) ?_
      refine Runs.seq ?_
      refine Runs.ops ?_
      refine RunAt.chunk 1 [⟨.d (.int .i64 0), []⟩] (by kernel_rfl) ?_
      refine RunAt.done (by kernel_rfl) ?_
      refine kS_nrm ?_
      refine Runs.ret ?_
      refine kS_ret ?_
      obtain rfl := Option.some.inj h
      exact ⟨Out.ret_ne, (by kernel_rfl)⟩
    | false =>
      replace h := ite_f hb_2 h
      refine Runs.cond_f (by kernel_rfl) ?_
      refine Runs.skip ?_
      refine kS_nrm ?_
      refine Runs.seq ?_
      refine Runs.ops ?_
      refine RunAt.chunk 2 [⟨.d (.int .i64 (bitsOp .or .i64 (shlI .i64 (bitsOp .and .i64 (IntKind.wrap .i64 r_1.1) 127) 8) (IntKind.wrap .i64 r_2.1))), []⟩, ⟨.d (.int .i64 (bitsOp .or .i64 (shlI .i64 (bitsOp .and .i64 (IntKind.wrap .i64 r_1.1) 127) 8) (IntKind.wrap .i64 r_2.1))), []⟩] (by kernel_rfl) ?_
      refine RunAt.done (by kernel_rfl) ?_
      refine kS_nrm ?_
      refine Runs.ret ?_
      obtain rfl := Option.some.inj h
      exact ⟨Out.ret_ne, (by kernel_rfl)⟩
theorem index_Source_Index_L (s_ : Source) (r : (Int × Source)) (h : index_Source_Index s_ = some r) : L 31 [.ptr [.d (.sl (List.map (D.int .u8) s_.b)), .d (.int .i64 s_.e)]] = some (.d (.int .i64 r.1), [.ptr [.d (.sl (List.map (D.int .u8) r.2.b)), .d (.int .i64 r.2.e)]]) := by
  obtain ⟨p, ⟨hne, hf⟩, hr⟩ := index_Source_Index_ok s_ r h
  obtain ⟨k, hk⟩ := run_of (F := F31) (args := [.ptr [.d (.sl (List.map (D.int .u8) s_.b)), .d (.int .i64 s_.e)]]) (ap := [.ptr [0] 0 0]) (bx0 := updW (fun _ => none) [([0], some (.cells [.d (.sl (List.map (D.int .u8) s_.b)), .d (.int .i64 s_.e)] 0))]) rfl rfl (by kernel_rfl) ⟨p, ⟨hne, hf⟩, hr⟩
  exact lim_run (k := k) rfl hk
def index_Source_Left_Q (s_ : Source) (r : Int) (p : Out × St) : Prop := (∀ i, p.1 ≠ .exit i) ∧ finF F29 [.ptr [0] 0 0] p.2 = some (.d (.int .i64 r), [.ptr [.d (.sl (List.map (D.int .u8) s_.b)), .d (.int .i64 s_.e)]])
theorem index_Source_Left_ok (s_ : Source) (r : Int) (h : index_Source_Left s_ = some r) : Runs L F29.body ⟨tmOf [.ptr [0] 0 0] 0, updW (fun _ => none) [([0], some (.cells [.d (.sl (List.map (D.int .u8) s_.b)), .d (.int .i64 s_.e)] 0))]⟩ (index_Source_Left_Q s_ r) := by
  unfold index_Source_Left at h
  refine Runs.seq ?_
  refine Runs.ops ?_
  refine RunAt.chunk 1 [⟨.d (.int .i64 0), []⟩] (by kernel_rfl) ?_
  refine RunAt.done (by kernel_rfl) ?_
  refine kS_nrm ?_
  refine Runs.seq ?_
  refine Runs.seq ?_
  refine Runs.ops ?_
  refine RunAt.chunk 2 [⟨.ptr [0] 0 0, []⟩, ⟨.d (.bool false), []⟩] (by kernel_rfl) ?_
  refine RunAt.done (by kernel_rfl) ?_
  refine kS_nrm ?_
  refine Runs.cond_f (by kernel_rfl) ?_
  refine Runs.skip ?_
  refine kS_nrm ?_
  refine Runs.seq ?_
  refine Runs.ops ?_
  refine RunAt.chunk 4 [⟨.ptr [0] 0 0, []⟩, ⟨.ptr [0] 0 0, []⟩, ⟨.ptr [0] 0 0, []⟩, ⟨.d (.sl (List.map (D.int .u8) s_.b)), []⟩] (by kernel_rfl) ?_
  refine RunAt.cut (some 9) .lenL [] none [.d (.sl (List.map (D.int .u8) s_.b))] (.d (.int .i64 (s_.b.length : Int))) [] (by kernel_rfl) (by kernel_rfl) (by kernel_rfl) (cut_len _) ?_
  refine RunAt.chunk 1 [⟨.d (.int .i64 (s_.b.length : Int)), []⟩] (by kernel_rfl) ?_
  refine RunAt.done (by kernel_rfl) ?_
  refine kS_nrm ?_
  refine Runs.ret ?_
  obtain rfl := Option.some.inj h
  exact ⟨Out.ret_ne, (by kernel_rfl)⟩
theorem index_Source_Left_L (s_ : Source) (r : Int) (h : index_Source_Left s_ = some r) : L 29 [.ptr [.d (.sl (List.map (D.int .u8) s_.b)), .d (.int .i64 s_.e)]] = some (.d (.int .i64 r), [.ptr [.d (.sl (List.map (D.int .u8) s_.b)), .d (.int .i64 s_.e)]]) := by
  obtain ⟨p, ⟨hne, hf⟩, hr⟩ := index_Source_Left_ok s_ r h
  obtain ⟨k, hk⟩ := run_of (F := F29) (args := [.ptr [.d (.sl (List.map (D.int .u8) s_.b)), .d (.int .i64 s_.e)]]) (ap := [.ptr [0] 0 0]) (bx0 := updW (fun _ => none) [([0], some (.cells [.d (.sl (List.map (D.int .u8) s_.b)), .d (.int .i64 s_.e)] 0))]) rfl rfl (by kernel_rfl) ⟨p, ⟨hne, hf⟩, hr⟩
  exact lim_run (k := k) rfl hk
def index_Source_End_Q (s_ : Source) (r : (Int × Source)) (p : Out × St) : Prop := (∀ i, p.1 ≠ .exit i) ∧ finF F34 [.ptr [0] 0 0] p.2 = some (.d (.int .i64 r.1), [.ptr [.d (.sl (List.map (D.int .u8) r.2.b)), .d (.int .i64 r.2.e)]])
theorem index_Source_End_ok (s_ : Source) (r : (Int × Source)) (h : index_Source_End s_ = some r) : Runs L F34.body ⟨tmOf [.ptr [0] 0 0] 0, updW (fun _ => none) [([0], some (.cells [.d (.sl (List.map (D.int .u8) s_.b)), .d (.int .i64 s_.e)] 0))]⟩ (index_Source_End_Q s_ r) := by
  unfold index_Source_End at h
  refine Runs.seq ?_
  refine Runs.ops ?_
  refine RunAt.chunk 1 [⟨.d (.int .i64 0), []⟩] (by kernel_rfl) ?_
  refine RunAt.done (by kernel_rfl) ?_
  refine kS_nrm ?_
  refine Runs.seq ?_
  refine Runs.seq ?_
  refine Runs.ops ?_
  refine RunAt.chunk 1 [⟨.ptr [0] 0 0, []⟩] (by kernel_rfl) ?_
  obtain ⟨r_1, hr_1, h⟩ := bind_s h
  have hc_1 := index_Source_Left_L s_ r_1 hr_1
  refine RunAt.cut (some 4) (.callf 29) [] none [.ptr [0] 0 0] (.d (.int .i64 r_1)) [([0], some (.cells [.d (.sl (List.map (D.int .u8) s_.b)), .d (.int .i64 s_.e)] 0))] (by kernel_rfl) (by kernel_rfl) (by kernel_rfl) (cut_call (call_of (ws := []) (us := [([0], some (.cells [.d (.sl (List.map (D.int .u8) s_.b)), .d (.int .i64 s_.e)] 0))]) (by kernel_rfl) (by kernel_rfl) hc_1 (by kernel_rfl) (by kernel_rfl))) ?_
  refine RunAt.chunk 1 [⟨.d (.bool (decide (r_1 > 0))), []⟩] (by kernel_rfl) ?_
  refine RunAt.done (by kernel_rfl) ?_
  refine kS_nrm ?_
  cases hb_1 : ((decide (r_1 > 0)) : Bool) with
  | true =>
    replace h := ite_t hb_1 h
    refine Runs.cond_t (by kernel_rfl) ?_
    refine Runs.ops ?_
    refine RunAt.chunk 1 [⟨.ptr [0] 0 0, []⟩] (by kernel_rfl) ?_
    obtain ⟨r_2, hr_2, h⟩ := bind_s h
    have hc_2 := index_Source_Wrong_L s_ 3 r_2 hr_2
    refine RunAt.cut (some 7) (.callf 27) [] none [.ptr [0] 0 0, .d (.int .i64 3)] (.tup []) [([0], some (.cells [.d (.sl (List.map (D.int .u8) r_2.b)), .d (.int .i64 r_2.e)] 0))] (by kernel_rfl) (by kernel_rfl) (by kernel_rfl) (cut_call (call_of (ws := []) (us := [([0], some (.cells [.d (.sl (List.map (D.int .u8) r_2.b)), .d (.int .i64 r_2.e)] 0))]) (by kernel_rfl) (by kernel_rfl) hc_2 (by kernel_rfl) (by kernel_rfl))) ?_
    refine RunAt.done (by kernel_rfl) ?_
    refine kS_nrm ?_
    refine Runs.seq ?_
    refine Runs.ops ?_
    refine RunAt.chunk 1 [⟨.ptr [0] 0 0, []⟩] (by kernel_rfl) ?_
    obtain ⟨r_3, hr_3, h⟩ := bind_s h
    have hc_3 := index_Source_Err_L r_2 r_3 hr_3
    refine RunAt.cut (some 9) (.callf 28) [] none [.ptr [0] 0 0] (.d (.int .i64 r_3)) [([0], some (.cells [.d (.sl (List.map (D.int .u8) r_2.b)), .d (.int .i64 r_2.e)] 0))] (by kernel_rfl) (by kernel_rfl) (by kernel_rfl) (cut_call (call_of (ws := []) (us := [([0], some (.cells [.d (.sl (List.map (D.int .u8) r_2.b)), .d (.int .i64 r_2.e)] 0))]) (by kernel_rfl) (by kernel_rfl) hc_3 (by kernel_rfl) (by kernel_rfl))) ?_
    refine RunAt.chunk 1 [⟨.d (.int .i64 r_3), []⟩] (by kernel_rfl) ?_
    refine RunAt.done (by kernel_rfl) ?_
    refine kS_nrm ?_
    refine Runs.ret ?_
    obtain rfl := Option.some.inj h
    exact ⟨Out.ret_ne, (by kernel_rfl)⟩
  | false =>
    replace h := ite_f hb_1 h
    refine Runs.cond_f (by kernel_rfl) ?_
    refine Runs.skip ?_
    refine kS_nrm ?_
    refine Runs.seq ?_
    refine Runs.ops ?_
    refine RunAt.chunk 1 [⟨.ptr [0] 0 0, []⟩] (by kernel_rfl) ?_
    obtain ⟨r_4, hr_4, h⟩ := bind_s h
    have hc_4 := index_Source_Err_L s_ r_4 hr_4
    refine RunAt.cut (some 9) (.callf 28) [] none [.ptr [0] 0 0] (.d (.int .i64 r_4)) [([0], some (.cells [.d (.sl (List.map (D.int .u8) s_.b)), .d (.int .i64 s_.e)] 0))] (by kernel_rfl) (by kernel_rfl) (by kernel_rfl) (cut_call (call_of (ws := []) (us := [([0], some (.cells [.d (.sl (List.map (D.int .u8) s_.b)), .d (.int .i64 s_.e)] 0))]) (by kernel_rfl) (by kernel_rfl) hc_4 (by kernel_rfl) (by kernel_rfl))) ?_
    refine RunAt.chunk 1 [⟨.d (.int .i64 r_4), []⟩] (by kernel_rfl) ?_
    refine RunAt.done (by kernel_rfl) ?_
    refine kS_nrm ?_
    refine Runs.ret ?_
    obtain rfl := Option.some.inj h
    exact ⟨Out.ret_ne, (by kernel_rfl)⟩
theorem index_Source_End_L (s_ : Source) (r : (Int × Source)) (h : index_Source_End s_ = some r) : L 34 [.ptr [.d (.sl (List.map (D.int .u8) s_.b)), .d (.int .i64 s_.e)]] = some (.d (.int .i64 r.1), [.ptr [.d (.sl (List.map (D.int .u8) r.2.b)), .d (.int .i64 r.2.e)]]) := by
  obtain ⟨p, ⟨hne, hf⟩, hr⟩ := index_Source_End_ok s_ r h
  obtain ⟨k, hk⟩ := run_of (F := F34) (args := [.ptr [.d (.sl (List.map (D.int .u8) s_.b)), .d (.int .i64 s_.e)]]) (ap := [.ptr [0] 0 0]) (bx0 := updW (fun _ => none) [([0], some (.cells [.d (.sl (List.map (D.int .u8) s_.b)), .d (.int .i64 s_.e)] 0))]) rfl rfl (by kernel_rfl) ⟨p, ⟨hne, hf⟩, hr⟩
  exact lim_run (k := k) rfl hk
def segs_Def_h14 (b_2 : SegDef) (d6 : SegDef) (b_9 : Source) (first5 : Int) : St := ⟨tab [(2, .ptr [2] 0 0), (4, .ptr [9] 0 0), (5, .d (.int .u8 first5)), (6, .ptr [6] 0 0)], tabB [([2], some (.cells [.d (.int .i64 b_2.Align), .d (.int .i64 b_2.Combine), .d (.int .u16 b_2.Frame), .d (.int .u8 b_2.Offset), .d (.int .i64 b_2.Len), .d (.int .i64 b_2.Name), .d (.int .i64 b_2.Class), .d (.int .i64 b_2.Overlay)] 0)), ([6], some (.cells [.d (.int .i64 d6.Align), .d (.int .i64 d6.Combine), .d (.int .u16 d6.Frame), .d (.int .u8 d6.Offset), .d (.int .i64 d6.Len), .d (.int .i64 d6.Name), .d (.int .i64 d6.Class), .d (.int .i64 d6.Overlay)] 0)), ([9], some (.cells [.d (.sl (List.map (D.int .u8) b_9.b)), .d (.int .i64 b_9.e)] 0))]⟩
def segs_Def_h28 (b_2 : SegDef) (d6 : SegDef) (b_9 : Source) (first5 : Int) : St := ⟨tab [(2, .ptr [2] 0 0), (4, .ptr [9] 0 0), (5, .d (.int .u8 first5)), (6, .ptr [6] 0 0)], tabB [([2], some (.cells [.d (.int .i64 b_2.Align), .d (.int .i64 b_2.Combine), .d (.int .u16 b_2.Frame), .d (.int .u8 b_2.Offset), .d (.int .i64 b_2.Len), .d (.int .i64 b_2.Name), .d (.int .i64 b_2.Class), .d (.int .i64 b_2.Overlay)] 0)), ([6], some (.cells [.d (.int .i64 d6.Align), .d (.int .i64 d6.Combine), .d (.int .u16 d6.Frame), .d (.int .u8 d6.Offset), .d (.int .i64 d6.Len), .d (.int .i64 d6.Name), .d (.int .i64 d6.Class), .d (.int .i64 d6.Overlay)] 0)), ([9], some (.cells [.d (.sl (List.map (D.int .u8) b_9.b)), .d (.int .i64 b_9.e)] 0))]⟩
def segs_Def_Q (b_ : (List Int)) (r : (SegDef × Int)) (p : Out × St) : Prop := (∀ i, p.1 ≠ .exit i) ∧ finF F61 [.d (.sl (List.map (D.int .u8) b_))] p.2 = some (.tup [.d (SegDef.d r.1), .d (.int .i64 r.2)], [.d (.sl (List.map (D.int .u8) b_))])
theorem segs_Def_j28_ok (b_ : (List Int)) (b_2 : SegDef) (d6 : SegDef) (b_9 : Source) (first5 : Int) (r : (SegDef × Int)) (h : segs_Def_j28 b_2 d6 b_9 first5 = some r) : Runs L F61b28 (segs_Def_h28 b_2 d6 b_9 first5) (segs_Def_Q b_ r) := by
  unfold segs_Def_j28 at h
  refine Runs.seq ?_
  refine Runs.ops ?_
  refine RunAt.chunk 1 [⟨.ptr [9] 0 0, []⟩] (by kernel_rfl) ?_
  obtain ⟨r_7, hr_7, h⟩ := bind_s h
  have hc_7 := index_Source_Index_L b_9 r_7 hr_7
  refine RunAt.cut (some 43) (.callf 31) [] none [.ptr [9] 0 0] (.d (.int .i64 r_7.1)) [([9], some (.cells [.d (.sl (List.map (D.int .u8) r_7.2.b)), .d (.int .i64 r_7.2.e)] 0))] (by kernel_rfl) (by kernel_rfl) (by kernel_rfl) (cut_call (call_of (ws := []) (us := [([9], some (.cells [.d (.sl (List.map (D.int .u8) r_7.2.b)), .d (.int .i64 r_7.2.e)] 0))]) (by kernel_rfl) (by kernel_rfl) hc_7 (by kernel_rfl) (by kernel_rfl))) ?_
  refine RunAt.chunk 1 [⟨.ptr [9] 0 0, []⟩] (by kernel_rfl) ?_
  obtain ⟨r_8, hr_8, h⟩ := bind_s h
  have hc_8 := index_Source_Index_L r_7.2 r_8 hr_8
  refine RunAt.cut (some 45) (.callf 31) [] none [.ptr [9] 0 0] (.d (.int .i64 r_8.1)) [([9], some (.cells [.d (.sl (List.map (D.int .u8) r_8.2.b)), .d (.int .i64 r_8.2.e)] 0))] (by kernel_rfl) (by kernel_rfl) (by kernel_rfl) (cut_call (call_of (ws := []) (us := [([9], some (.cells [.d (.sl (List.map (D.int .u8) r_8.2.b)), .d (.int .i64 r_8.2.e)] 0))]) (by kernel_rfl) (by kernel_rfl) hc_8 (by kernel_rfl) (by kernel_rfl))) ?_
  refine RunAt.chunk 1 [⟨.ptr [9] 0 0, []⟩] (by kernel_rfl) ?_
  obtain ⟨r_9, hr_9, h⟩ := bind_s h
  have hc_9 := index_Source_Index_L r_8.2 r_9 hr_9
  refine RunAt.cut (some 47) (.callf 31) [] none [.ptr [9] 0 0] (.d (.int .i64 r_9.1)) [([9], some (.cells [.d (.sl (List.map (D.int .u8) r_9.2.b)), .d (.int .i64 r_9.2.e)] 0))] (by kernel_rfl) (by kernel_rfl) (by kernel_rfl) (cut_call (call_of (ws := []) (us := [([9], some (.cells [.d (.sl (List.map (D.int .u8) r_9.2.b)), .d (.int .i64 r_9.2.e)] 0))]) (by kernel_rfl) (by kernel_rfl) hc_9 (by kernel_rfl) (by kernel_rfl))) ?_
  refine RunAt.chunk 6 [⟨.ptr [6] 0 5, []⟩, ⟨.tup [], [([6], some (.cells [.d (.int .i64 d6.Align), .d (.int .i64 d6.Combine), .d (.int .u16 d6.Frame), .d (.int .u8 d6.Offset), .d (.int .i64 d6.Len), .d (.int .i64 r_7.1), .d (.int .i64 d6.Class), .d (.int .i64 d6.Overlay)] 0))]⟩, ⟨.ptr [6] 0 6, []⟩, ⟨.tup [], [([6], some (.cells [.d (.int .i64 d6.Align), .d (.int .i64 d6.Combine), .d (.int .u16 d6.Frame), .d (.int .u8 d6.Offset), .d (.int .i64 d6.Len), .d (.int .i64 r_7.1), .d (.int .i64 r_8.1), .d (.int .i64 d6.Overlay)] 0))]⟩, ⟨.ptr [6] 0 7, []⟩, ⟨.tup [], [([6], some (.cells [.d (.int .i64 d6.Align), .d (.int .i64 d6.Combine), .d (.int .u16 d6.Frame), .d (.int .u8 d6.Offset), .d (.int .i64 d6.Len), .d (.int .i64 r_7.1), .d (.int .i64 r_8.1), .d (.int .i64 r_9.1)] 0))]⟩] (by kernel_rfl) ?_
  refine RunAt.done (by kernel_rfl) ?_
  refine kS_nrm ?_
  refine Runs.seq ?_
  refine Runs.seq ?_
  refine Runs.ops ?_
  refine RunAt.chunk 4 [⟨.d (.int .u8 first5), []⟩, ⟨.d (.int .u8 (bitsOp .and .u8 first5 1)), []⟩, ⟨.d (.bool ((bitsOp .and .u8 first5 1) != 0)), []⟩, ⟨.d (.bool ((bitsOp .and .u8 first5 1) != 0)), []⟩] (by kernel_rfl) ?_
  cases hb_4 : (((bitsOp .and .u8 first5 1) != 0) : Bool) with
  | true =>
    replace h := ite_t hb_4 h
    refine RunAt.chunk 4 [⟨.tup [], []⟩, ⟨.tup [], []⟩, ⟨.tup [], []⟩, ⟨.d (.bool true), []⟩] (by kernel_rfl) ?_
    refine RunAt.done (by kernel_rfl) ?_
    refine kS_nrm ?_
    refine Runs.cond_t (by kernel_rfl) ?_
    refine Runs.ops ?_
    refine RunAt.chunk 1 [⟨.ptr [9] 0 0, []⟩] (by kernel_rfl) ?_
    obtain ⟨r_10, hr_10, h⟩ := bind_s h
    have hc_10 := index_Source_Wrong_L r_9.2 3 r_10 hr_10
    refine RunAt.cut (some 60) (.callf 27) [] none [.ptr [9] 0 0, .d (.int .i64 3)] (.tup []) [([9], some (.cells [.d (.sl (List.map (D.int .u8) r_10.b)), .d (.int .i64 r_10.e)] 0))] (by kernel_rfl) (by kernel_rfl) (by kernel_rfl) (cut_call (call_of (ws := []) (us := [([9], some (.cells [.d (.sl (List.map (D.int .u8) r_10.b)), .d (.int .i64 r_10.e)] 0))]) (by kernel_rfl) (by kernel_rfl) hc_10 (by kernel_rfl) (by kernel_rfl))) ?_
    refine RunAt.done (by kernel_rfl) ?_
    refine kS_nrm ?_
    refine Runs.seq ?_
    refine Runs.seq ?_
    refine Runs.ops ?_
    refine RunAt.chunk 1 [⟨.ptr [9] 0 0, []⟩] (by kernel_rfl) ?_
    obtain ⟨r_11, hr_11, h⟩ := bind_s h
    have hc_11 := index_Source_End_L r_10 r_11 hr_11
    refine RunAt.cut (some 62) (.callf 34) [] none [.ptr [9] 0 0] (.d (.int .i64 r_11.1)) [([9], some (.cells [.d (.sl (List.map (D.int .u8) r_11.2.b)), .d (.int .i64 r_11.2.e)] 0))] (by kernel_rfl) (by kernel_rfl) (by kernel_rfl) (cut_call (call_of (ws := []) (us := [([9], some (.cells [.d (.sl (List.map (D.int .u8) r_11.2.b)), .d (.int .i64 r_11.2.e)] 0))]) (by kernel_rfl) (by kernel_rfl) hc_11 (by kernel_rfl) (by kernel_rfl))) ?_
    refine RunAt.chunk 1 [⟨.d (.int .i64 r_11.1), []⟩] (by kernel_rfl) ?_
    refine RunAt.done (by kernel_rfl) ?_
    refine kS_nrm ?_
    refine Runs.seq ?_
    refine Runs.ops ?_
    refine RunAt.chunk 2 [⟨.d (.int .i64 r_11.1), []⟩, ⟨.d (.bool (r_11.1 != 0)), []⟩] (by kernel_rfl) ?_
    refine RunAt.done (by kernel_rfl) ?_
    refine kS_nrm ?_
    cases hb_5 : ((r_11.1 != 0) : Bool) with
    | true =>
      replace h := ite_t hb_5 h
      refine Runs.cond_t (by kernel_rfl) ?_
      refine Runs.seq ?_
      refine Runs.ops ?_
      refine RunAt.chunk 4 [⟨.d (.agg [.int .i64 0, .int .i64 0, .int .u16 0, .int .u8 0, .int .i64 0, .int .i64 0, .int .i64 0, .int .i64 0]), []⟩, ⟨.d (.int .i64 r_11.1), []⟩, ⟨.tup [], [([2], some (.cells [.d (.int .i64 0), .d (.int .i64 0), .d (.int .u16 0), .d (.int .u8 0), .d (.int .i64 0), .d (.int .i64 0), .d (.int .i64 0), .d (.int .i64 0)] 0))]⟩, ⟨.d (.int .i64 r_11.1), []⟩] (by kernel_rfl) ?_
      refine RunAt.done (by kernel_rfl) ?_
      refine kS_nrm ?_
      refine Runs.ret ?_
      refine kS_ret ?_
      obtain rfl := Option.some.inj h
      exact ⟨Out.ret_ne, (by kernel_rfl)⟩
    | false =>
      replace h := ite_f hb_5 h
      refine Runs.cond_f (by kernel_rfl) ?_
      refine Runs.skip ?_
      refine kS_nrm ?_
      refine Runs.seq ?_
      refine Runs.ops ?_
      refine RunAt.chunk 3 [⟨.d (.agg [.int .i64 d6.Align, .int .i64 d6.Combine, .int .u16 d6.Frame, .int .u8 d6.Offset, .int .i64 d6.Len, .int .i64 r_7.1, .int .i64 r_8.1, .int .i64 r_9.1]), []⟩, ⟨.tup [], [([2], some (.cells [.d (.int .i64 d6.Align), .d (.int .i64 d6.Combine), .d (.int .u16 d6.Frame), .d (.int .u8 d6.Offset), .d (.int .i64 d6.Len), .d (.int .i64 r_7.1), .d (.int .i64 r_8.1), .d (.int .i64 r_9.1)] 0))]⟩, ⟨.d (.int .i64 0), []⟩] (by kernel_rfl) ?_
      refine RunAt.done (by kernel_rfl) ?_
      refine kS_nrm ?_
      refine Runs.ret ?_
      obtain rfl := Option.some.inj h
      exact ⟨Out.ret_ne, (by kernel_rfl)⟩
  | false =>
    replace h := ite_f hb_4 h
    refine RunAt.chunk 1 [⟨.d (.agg [.int .i64 d6.Align, .int .i64 d6.Combine, .int .u16 d6.Frame, .int .u8 d6.Offset, .int .i64 d6.Len, .int .i64 r_7.1, .int .i64 r_8.1, .int .i64 r_9.1]), []⟩] (by kernel_rfl) ?_
    obtain ⟨r_12, hr_12, h⟩ := bind_s h
    have hc_12 := segs_May_L ({ Align := d6.Align, Combine := d6.Combine, Frame := d6.Frame, Offset := d6.Offset, Len := d6.Len, Name := r_7.1, Class := r_8.1, Overlay := r_9.1 } : SegDef) r_12 hr_12
    refine RunAt.cut (some 56) (.callf 59) [] none [.d (.agg [.int .i64 d6.Align, .int .i64 d6.Combine, .int .u16 d6.Frame, .int .u8 d6.Offset, .int .i64 d6.Len, .int .i64 r_7.1, .int .i64 r_8.1, .int .i64 r_9.1])] (.d (.bool r_12)) [] (by kernel_rfl) (by kernel_rfl) (by kernel_rfl) (cut_call (call_of (ws := []) (us := []) (by kernel_rfl) (by kernel_rfl) hc_12 (by kernel_rfl) (by kernel_rfl))) ?_
    refine RunAt.chunk 2 [⟨.d (.bool (!r_12)), []⟩, ⟨.d (.bool (!r_12)), []⟩] (by kernel_rfl) ?_
    refine RunAt.done (by kernel_rfl) ?_
    refine kS_nrm ?_
    cases hb_6 : ((!r_12) : Bool) with
    | true =>
      replace h := ite_t hb_6 h
      refine Runs.cond_t (by kernel_rfl) ?_
      refine Runs.ops ?_
      refine RunAt.chunk 1 [⟨.ptr [9] 0 0, []⟩] (by kernel_rfl) ?_
      obtain ⟨r_13, hr_13, h⟩ := bind_s h
      have hc_13 := index_Source_Wrong_L r_9.2 3 r_13 hr_13
      refine RunAt.cut (some 60) (.callf 27) [] none [.ptr [9] 0 0, .d (.int .i64 3)] (.tup []) [([9], some (.cells [.d (.sl (List.map (D.int .u8) r_13.b)), .d (.int .i64 r_13.e)] 0))] (by kernel_rfl) (by kernel_rfl) (by kernel_rfl) (cut_call (call_of (ws := []) (us := [([9], some (.cells [.d (.sl (List.map (D.int .u8) r_13.b)), .d (.int .i64 r_13.e)] 0))]) (by kernel_rfl) (by kernel_rfl) hc_13 (by kernel_rfl) (by kernel_rfl))) ?_
      refine RunAt.done (by kernel_rfl) ?_
      refine kS_nrm ?_
      refine Runs.seq ?_
      refine Runs.seq ?_
      refine Runs.ops ?_
      refine RunAt.chunk 1 [⟨.ptr [9] 0 0, []⟩] (by kernel_rfl) ?_
      obtain ⟨r_14, hr_14, h⟩ := bind_s h
      have hc_14 := index_Source_End_L r_13 r_14 hr_14
      refine RunAt.cut (some 62) (.callf 34) [] none [.ptr [9] 0 0] (.d (.int .i64 r_14.1)) [([9], some (.cells [.d (.sl (List.map (D.int .u8) r_14.2.b)), .d (.int .i64 r_14.2.e)] 0))] (by kernel_rfl) (by kernel_rfl) (by kernel_rfl) (cut_call (call_of (ws := []) (us := [([9], some (.cells [.d (.sl (List.map (D.int .u8) r_14.2.b)), .d (.int .i64 r_14.2.e)] 0))]) (by kernel_rfl) (by kernel_rfl) hc_14 (by kernel_rfl) (by kernel_rfl))) ?_
      refine RunAt.chunk 1 [⟨.d (.int .i64 r_14.1), []⟩] (by kernel_rfl) ?_
      refine RunAt.done (by kernel_rfl) ?_
      refine kS_nrm ?_
      refine Runs.seq ?_
      refine Runs.ops ?_
      refine RunAt.chunk 2 [⟨.d (.int .i64 r_14.1), []⟩, ⟨.d (.bool (r_14.1 != 0)), []⟩] (by kernel_rfl) ?_
      refine RunAt.done (by kernel_rfl) ?_
      refine kS_nrm ?_
      cases hb_7 : ((r_14.1 != 0) : Bool) with
      | true =>
        replace h := ite_t hb_7 h
        refine Runs.cond_t (by kernel_rfl) ?_
        refine Runs.seq ?_
        refine Runs.ops ?_
        refine RunAt.chunk 4 [⟨.d (.agg [.int .i64 0, .int .i64 0, .int .u16 0, .int .u8 0, .int .i64 0, .int .i64 0, .int .i64 0, .int .i64 0]), []⟩, ⟨.d (.int .i64 r_14.1), []⟩, ⟨.tup [], [([2], some (.cells [.d (.int .i64 0), .d (.int .i64 0), .d (.int .u16 0), .d (.int .u8 0), .d (.int .i64 0), .d (.int .i64 0), .d (.int .i64 0), .d (.int .i64 0)] 0))]⟩, ⟨.d (.int .i64 r_14.1), []⟩] (by kernel_rfl) ?_
        refine RunAt.done (by kernel_rfl) ?_
        refine kS_nrm ?_
        refine Runs.ret ?_
        refine kS_ret ?_
        obtain rfl := Option.some.inj h
        exact ⟨Out.ret_ne, (by kernel_rfl)⟩
      | false =>
        replace h := ite_f hb_7 h
        refine Runs.cond_f (by kernel_rfl) ?_
        refine Runs.skip ?_
        refine kS_nrm ?_
        refine Runs.seq ?_
        refine Runs.ops ?_
        refine RunAt.chunk 3 [⟨.d (.agg [.int .i64 d6.Align, .int .i64 d6.Combine, .int .u16 d6.Frame, .int .u8 d6.Offset, .int .i64 d6.Len, .int .i64 r_7.1, .int .i64 r_8.1, .int .i64 r_9.1]), []⟩, ⟨.tup [], [([2], some (.cells [.d (.int .i64 d6.Align), .d (.int .i64 d6.Combine), .d (.int .u16 d6.Frame), .d (.int .u8 d6.Offset), .d (.int .i64 d6.Len), .d (.int .i64 r_7.1), .d (.int .i64 r_8.1), .d (.int .i64 r_9.1)] 0))]⟩, ⟨.d (.int .i64 0), []⟩] (by kernel_rfl) ?_
        refine RunAt.done (by kernel_rfl) ?_
        refine kS_nrm ?_
        refine Runs.ret ?_
        obtain rfl := Option.some.inj h
        exact ⟨Out.ret_ne, (by kernel_rfl)⟩
    | false =>
      replace h := ite_f hb_6 h
      refine Runs.cond_f (by kernel_rfl) ?_
      refine Runs.skip ?_
      refine kS_nrm ?_
      refine Runs.seq ?_
      refine Runs.seq ?_
      refine Runs.ops ?_
      refine RunAt.chunk 1 [⟨.ptr [9] 0 0, []⟩] (by kernel_rfl) ?_
      obtain ⟨r_15, hr_15, h⟩ := bind_s h
      have hc_15 := index_Source_End_L r_9.2 r_15 hr_15
      refine RunAt.cut (some 62) (.callf 34) [] none [.ptr [9] 0 0] (.d (.int .i64 r_15.1)) [([9], some (.cells [.d (.sl (List.map (D.int .u8) r_15.2.b)), .d (.int .i64 r_15.2.e)] 0))] (by kernel_rfl) (by kernel_rfl) (by kernel_rfl) (cut_call (call_of (ws := []) (us := [([9], some (.cells [.d (.sl (List.map (D.int .u8) r_15.2.b)), .d (.int .i64 r_15.2.e)] 0))]) (by kernel_rfl) (by kernel_rfl) hc_15 (by kernel_rfl) (by kernel_rfl))) ?_
      refine RunAt.chunk 1 [⟨.d (.int .i64 r_15.1), []⟩] (by kernel_rfl) ?_
      refine RunAt.done (by kernel_rfl) ?_
      refine kS_nrm ?_
      refine Runs.seq ?_
      refine Runs.ops ?_
      refine RunAt.chunk 2 [⟨.d (.int .i64 r_15.1), []⟩, ⟨.d (.bool (r_15.1 != 0)), []⟩] (by kernel_rfl) ?_
      refine RunAt.done (by kernel_rfl) ?_
      refine kS_nrm ?_
      cases hb_8 : ((r_15.1 != 0) : Bool) with
      | true =>
        replace h := ite_t hb_8 h
        refine Runs.cond_t (by kernel_rfl) ?_
        refine Runs.seq ?_
        refine Runs.ops ?_
        refine RunAt.chunk 4 [⟨.d (.agg [.int .i64 0, .int .i64 0, .int .u16 0, .int .u8 0, .int .i64 0, .int .i64 0, .int .i64 0, .int .i64 0]), []⟩, ⟨.d (.int .i64 r_15.1), []⟩, ⟨.tup [], [([2], some (.cells [.d (.int .i64 0), .d (.int .i64 0), .d (.int .u16 0), .d (.int .u8 0), .d (.int .i64 0), .d (.int .i64 0), .d (.int .i64 0), .d (.int .i64 0)] 0))]⟩, ⟨.d (.int .i64 r_15.1), []⟩] (by kernel_rfl) ?_
        refine RunAt.done (by kernel_rfl) ?_
        refine kS_nrm ?_
        refine Runs.ret ?_
        refine kS_ret ?_
        obtain rfl := Option.some.inj h
        exact ⟨Out.ret_ne, (by kernel_rfl)⟩
      | false =>
        replace h := ite_f hb_8 h
        refine Runs.cond_f (by kernel_rfl) ?_
        refine Runs.skip ?_
        refine kS_nrm ?_
        refine Runs.seq ?_
        refine Runs.ops ?_
        refine RunAt.chunk 3 [⟨.d (.agg [.int .i64 d6.Align, .int .i64 d6.Combine, .int .u16 d6.Frame, .int .u8 d6.Offset, .int .i64 d6.Len, .int .i64 r_7.1, .int .i64 r_8.1, .int .i64 r_9.1]), []⟩, ⟨.tup [], [([2], some (.cells [.d (.int .i64 d6.Align), .d (.int .i64 d6.Combine), .d (.int .u16 d6.Frame), .d (.int .u8 d6.Offset), .d (.int .i64 d6.Len), .d (.int .i64 r_7.1), .d (.int .i64 r_8.1), .d (.int .i64 r_9.1)] 0))]⟩, ⟨.d (.int .i64 0), []⟩] (by kernel_rfl) ?_
        refine RunAt.done (by kernel_rfl) ?_
        refine kS_nrm ?_
        refine Runs.ret ?_
        obtain rfl := Option.some.inj h
        exact ⟨Out.ret_ne, (by kernel_rfl)⟩
theorem segs_Def_j14_ok (b_ : (List Int)) (b_2 : SegDef) (d6 : SegDef) (b_9 : Source) (first5 : Int) (r : (SegDef × Int)) (h : segs_Def_j14 b_2 d6 b_9 first5 = some r) : Runs L F61b14 (segs_Def_h14 b_2 d6 b_9 first5) (segs_Def_Q b_ r) := by
  unfold segs_Def_j14 at h
  refine Runs.seq ?_
  refine Runs.ops ?_
  refine RunAt.chunk 1 [⟨.ptr [9] 0 0, []⟩] (by kernel_rfl) ?_
  obtain ⟨r_5, hr_5, h⟩ := bind_s h
  have hc_5 := index_Source_Word_L b_9 r_5 hr_5
  refine RunAt.cut (some 30) (.callf 30) [] none [.ptr [9] 0 0] (.d (.int .u16 r_5.1)) [([9], some (.cells [.d (.sl (List.map (D.int .u8) r_5.2.b)), .d (.int .i64 r_5.2.e)] 0))] (by kernel_rfl) (by kernel_rfl) (by kernel_rfl) (cut_call (call_of (ws := []) (us := [([9], some (.cells [.d (.sl (List.map (D.int .u8) r_5.2.b)), .d (.int .i64 r_5.2.e)] 0))]) (by kernel_rfl) (by kernel_rfl) hc_5 (by kernel_rfl) (by kernel_rfl))) ?_
  refine RunAt.chunk 3 [⟨.d (.int .i64 (IntKind.wrap .i64 r_5.1)), []⟩, ⟨.ptr [6] 0 4, []⟩, ⟨.tup [], [([6], some (.cells [.d (.int .i64 d6.Align), .d (.int .i64 d6.Combine), .d (.int .u16 d6.Frame), .d (.int .u8 d6.Offset), .d (.int .i64 (IntKind.wrap .i64 r_5.1)), .d (.int .i64 d6.Name), .d (.int .i64 d6.Class), .d (.int .i64 d6.Overlay)] 0))]⟩] (by kernel_rfl) ?_
  refine RunAt.done (by kernel_rfl) ?_
  refine kS_nrm ?_
  refine Runs.seq ?_
  refine Runs.seq ?_
  refine Runs.ops ?_
  refine RunAt.chunk 3 [⟨.d (.int .u8 first5), []⟩, ⟨.d (.int .u8 (bitsOp .and .u8 first5 2)), []⟩, ⟨.d (.bool ((bitsOp .and .u8 first5 2) != 0)), []⟩] (by kernel_rfl) ?_
  refine RunAt.done (by kernel_rfl) ?_
  refine kS_nrm ?_
  cases hb_2 : (((bitsOp .and .u8 first5 2) != 0) : Bool) with
  | true =>
    replace h := ite_t hb_2 h
    refine Runs.cond_t (by kernel_rfl) ?_
    refine Runs.seq ?_
    refine Runs.seq ?_
    refine Runs.ops ?_
    refine RunAt.chunk 3 [⟨.ptr [6] 0 4, []⟩, ⟨.d (.int .i64 (IntKind.wrap .i64 r_5.1)), []⟩, ⟨.d (.bool ((IntKind.wrap .i64 r_5.1) != 0)), []⟩] (by kernel_rfl) ?_
    refine RunAt.done (by kernel_rfl) ?_
    refine kS_nrm ?_
    cases hb_3 : (((IntKind.wrap .i64 r_5.1) != 0) : Bool) with
    | true =>
      replace h := ite_t hb_3 h
      refine Runs.cond_t (by kernel_rfl) ?_
      refine Runs.ops ?_
      refine RunAt.chunk 1 [⟨.ptr [9] 0 0, []⟩] (by kernel_rfl) ?_
      obtain ⟨r_6, hr_6, h⟩ := bind_s h
      have hc_6 := index_Source_Wrong_L r_5.2 3 r_6 hr_6
      refine RunAt.cut (some 40) (.callf 27) [] none [.ptr [9] 0 0, .d (.int .i64 3)] (.tup []) [([9], some (.cells [.d (.sl (List.map (D.int .u8) r_6.b)), .d (.int .i64 r_6.e)] 0))] (by kernel_rfl) (by kernel_rfl) (by kernel_rfl) (cut_call (call_of (ws := []) (us := [([9], some (.cells [.d (.sl (List.map (D.int .u8) r_6.b)), .d (.int .i64 r_6.e)] 0))]) (by kernel_rfl) (by kernel_rfl) hc_6 (by kernel_rfl) (by kernel_rfl))) ?_
      refine RunAt.done (by kernel_rfl) ?_
      refine kS_nrm ?_
      refine Runs.ops ?_
      refine RunAt.chunk 2 [⟨.ptr [6] 0 4, []⟩, ⟨.tup [], [([6], some (.cells [.d (.int .i64 d6.Align), .d (.int .i64 d6.Combine), .d (.int .u16 d6.Frame), .d (.int .u8 d6.Offset), .d (.int .i64 65536), .d (.int .i64 d6.Name), .d (.int .i64 d6.Class), .d (.int .i64 d6.Overlay)] 0))]⟩] (by kernel_rfl) ?_
      refine RunAt.done (by kernel_rfl) ?_
      refine kS_nrm ?_
      refine Runs.canon (segs_Def_h28 b_2 ({ Align := d6.Align, Combine := d6.Combine, Frame := d6.Frame, Offset := d6.Offset, Len := 65536, Name := d6.Name, Class := d6.Class, Overlay := d6.Overlay } : SegDef) r_6 first5) (Canon.nil (by kernel_rfl)) ?_
      exact segs_Def_j28_ok b_ b_2 ({ Align := d6.Align, Combine := d6.Combine, Frame := d6.Frame, Offset := d6.Offset, Len := 65536, Name := d6.Name, Class := d6.Class, Overlay := d6.Overlay } : SegDef) r_6 first5 r h
    | false =>
      replace h := ite_f hb_3 h
      refine Runs.cond_f (by kernel_rfl) ?_
      refine Runs.skip ?_
      refine kS_nrm ?_
      refine Runs.ops ?_
      refine RunAt.chunk 2 [⟨.ptr [6] 0 4, []⟩, ⟨.tup [], [([6], some (.cells [.d (.int .i64 d6.Align), .d (.int .i64 d6.Combine), .d (.int .u16 d6.Frame), .d (.int .u8 d6.Offset), .d (.int .i64 65536), .d (.int .i64 d6.Name), .d (.int .i64 d6.Class), .d (.int .i64 d6.Overlay)] 0))]⟩] (by kernel_rfl) ?_
      refine RunAt.done (by kernel_rfl) ?_
      refine kS_nrm ?_
      refine Runs.canon (segs_Def_h28 b_2 ({ Align := d6.Align, Combine := d6.Combine, Frame := d6.Frame, Offset := d6.Offset, Len := 65536, Name := d6.Name, Class := d6.Class, Overlay := d6.Overlay } : SegDef) r_5.2 first5) (Canon.nil (by kernel_rfl)) ?_
      exact segs_Def_j28_ok b_ b_2 ({ Align := d6.Align, Combine := d6.Combine, Frame := d6.Frame, Offset := d6.Offset, Len := 65536, Name := d6.Name, Class := d6.Class, Overlay := d6.Overlay } : SegDef) r_5.2 first5 r h
  | false =>
    replace h := ite_f hb_2 h
    refine Runs.cond_f (by kernel_rfl) ?_
    refine Runs.skip ?_
    refine kS_nrm ?_
    refine Runs.canon (segs_Def_h28 b_2 ({ Align := d6.Align, Combine := d6.Combine, Frame := d6.Frame, Offset := d6.Offset, Len := (IntKind.wrap .i64 r_5.1), Name := d6.Name, Class := d6.Class, Overlay := d6.Overlay } : SegDef) r_5.2 first5) (Canon.nil (by kernel_rfl)) ?_
    exact segs_Def_j28_ok b_ b_2 ({ Align := d6.Align, Combine := d6.Combine, Frame := d6.Frame, Offset := d6.Offset, Len := (IntKind.wrap .i64 r_5.1), Name := d6.Name, Class := d6.Class, Overlay := d6.Overlay } : SegDef) r_5.2 first5 r h
theorem segs_Def_ok (b_ : (List Int)) (r : (SegDef × Int)) (h : segs_Def b_ = some r) : Runs L F61.body ⟨tmOf [.d (.sl (List.map (D.int .u8) b_))] 0, updW (fun _ => none) []⟩ (segs_Def_Q b_ r) := by
  unfold segs_Def at h
  refine Runs.seq ?_
  refine Runs.ops ?_
  refine RunAt.chunk 2 [⟨.ptr [2] 0 0, [([2], some (.cells [.d (.int .i64 0), .d (.int .i64 0), .d (.int .u16 0), .d (.int .u8 0), .d (.int .i64 0), .d (.int .i64 0), .d (.int .i64 0), .d (.int .i64 0)] 0))]⟩, ⟨.d (.int .i64 0), []⟩] (by kernel_rfl) ?_
  refine RunAt.done (by kernel_rfl) ?_
  refine kS_nrm ?_
  refine Runs.seq ?_
  refine Runs.ops ?_
  refine RunAt.chunk 1 [⟨.d (.sl (List.map (D.int .u8) b_)), []⟩] (by kernel_rfl) ?_
  obtain ⟨r_1, hr_1, h⟩ := bind_s h
  have hc_1 := index_From_L b_ r_1 hr_1
  refine RunAt.cut (some 9) (.callf 25) [] none [.d (.sl (List.map (D.int .u8) b_))] (.ptr [9] 0 0) [([9], some (.cells [.d (.sl (List.map (D.int .u8) r_1.b)), .d (.int .i64 r_1.e)] 0))] (by kernel_rfl) (by kernel_rfl) (by kernel_rfl) (cut_call (call_of (ws := []) (us := []) (by kernel_rfl) (by kernel_rfl) hc_1 (by kernel_rfl) (by kernel_rfl))) ?_
  refine RunAt.chunk 1 [⟨.ptr [9] 0 0, []⟩] (by kernel_rfl) ?_
  refine RunAt.done (by kernel_rfl) ?_
  refine kS_nrm ?_
  refine Runs.seq ?_
  refine Runs.ops ?_
  refine RunAt.chunk 1 [⟨.ptr [9] 0 0, []⟩] (by kernel_rfl) ?_
  obtain ⟨r_2, hr_2, h⟩ := bind_s h
  have hc_2 := index_Source_Byte_L r_1 r_2 hr_2
  refine RunAt.cut (some 11) (.callf 35) [] none [.ptr [9] 0 0] (.d (.int .u8 r_2.1)) [([9], some (.cells [.d (.sl (List.map (D.int .u8) r_2.2.b)), .d (.int .i64 r_2.2.e)] 0))] (by kernel_rfl) (by kernel_rfl) (by kernel_rfl) (cut_call (call_of (ws := []) (us := [([9], some (.cells [.d (.sl (List.map (D.int .u8) r_2.2.b)), .d (.int .i64 r_2.2.e)] 0))]) (by kernel_rfl) (by kernel_rfl) hc_2 (by kernel_rfl) (by kernel_rfl))) ?_
  refine RunAt.chunk 1 [⟨.d (.int .u8 r_2.1), []⟩] (by kernel_rfl) ?_
  refine RunAt.done (by kernel_rfl) ?_
  refine kS_nrm ?_
  refine Runs.seq ?_
  refine Runs.ops ?_
  refine RunAt.chunk 10 [⟨.d (.int .u8 r_2.1), []⟩, ⟨.d (.int .u8 (shrI .u8 r_2.1 5)), []⟩, ⟨.d (.int .i64 (IntKind.wrap .i64 (shrI .u8 r_2.1 5))), []⟩, ⟨.d (.int .u8 r_2.1), []⟩, ⟨.d (.int .u8 (shrI .u8 r_2.1 2)), []⟩, ⟨.d (.int .u8 (bitsOp .and .u8 (shrI .u8 r_2.1 2) 7)), []⟩, ⟨.d (.int .i64 (IntKind.wrap .i64 (bitsOp .and .u8 (shrI .u8 r_2.1 2) 7))), []⟩, ⟨.d (.agg [.int .i64 (IntKind.wrap .i64 (shrI .u8 r_2.1 5)), .int .i64 (IntKind.wrap .i64 (bitsOp .and .u8 (shrI .u8 r_2.1 2) 7)), .int .u16 0, .int .u8 0, .int .i64 0, .int .i64 0, .int .i64 0, .int .i64 0]), []⟩, ⟨.ptr [6] 0 0, [([6], some (.cells [.d (.int .i64 0), .d (.int .i64 0), .d (.int .u16 0), .d (.int .u8 0), .d (.int .i64 0), .d (.int .i64 0), .d (.int .i64 0), .d (.int .i64 0)] 0))]⟩, ⟨.tup [], [([6], some (.cells [.d (.int .i64 (IntKind.wrap .i64 (shrI .u8 r_2.1 5))), .d (.int .i64 (IntKind.wrap .i64 (bitsOp .and .u8 (shrI .u8 r_2.1 2) 7))), .d (.int .u16 0), .d (.int .u8 0), .d (.int .i64 0), .d (.int .i64 0), .d (.int .i64 0), .d (.int .i64 0)] 0))]⟩] (by kernel_rfl) ?_
  refine RunAt.done (by kernel_rfl) ?_
  refine kS_nrm ?_
  refine Runs.seq ?_
  refine Runs.seq ?_
  refine Runs.ops ?_
  refine RunAt.chunk 3 [⟨.ptr [6] 0 0, []⟩, ⟨.d (.int .i64 (IntKind.wrap .i64 (shrI .u8 r_2.1 5))), []⟩, ⟨.d (.bool ((IntKind.wrap .i64 (shrI .u8 r_2.1 5)) == 0)), []⟩] (by kernel_rfl) ?_
  refine RunAt.done (by kernel_rfl) ?_
  refine kS_nrm ?_
  cases hb_1 : (((IntKind.wrap .i64 (shrI .u8 r_2.1 5)) == 0) : Bool) with
  | true =>
    replace h := ite_t hb_1 h
    refine Runs.cond_t (by kernel_rfl) ?_
    refine Runs.ops ?_
    refine RunAt.chunk 1 [⟨.ptr [9] 0 0, []⟩] (by kernel_rfl) ?_
    obtain ⟨r_3, hr_3, h⟩ := bind_s h
    have hc_3 := index_Source_Word_L r_2.2 r_3 hr_3
    refine RunAt.cut (some 24) (.callf 30) [] none [.ptr [9] 0 0] (.d (.int .u16 r_3.1)) [([9], some (.cells [.d (.sl (List.map (D.int .u8) r_3.2.b)), .d (.int .i64 r_3.2.e)] 0))] (by kernel_rfl) (by kernel_rfl) (by kernel_rfl) (cut_call (call_of (ws := []) (us := [([9], some (.cells [.d (.sl (List.map (D.int .u8) r_3.2.b)), .d (.int .i64 r_3.2.e)] 0))]) (by kernel_rfl) (by kernel_rfl) hc_3 (by kernel_rfl) (by kernel_rfl))) ?_
    refine RunAt.chunk 1 [⟨.ptr [9] 0 0, []⟩] (by kernel_rfl) ?_
    obtain ⟨r_4, hr_4, h⟩ := bind_s h
    have hc_4 := index_Source_Byte_L r_3.2 r_4 hr_4
    refine RunAt.cut (some 26) (.callf 35) [] none [.ptr [9] 0 0] (.d (.int .u8 r_4.1)) [([9], some (.cells [.d (.sl (List.map (D.int .u8) r_4.2.b)), .d (.int .i64 r_4.2.e)] 0))] (by kernel_rfl) (by kernel_rfl) (by kernel_rfl) (cut_call (call_of (ws := []) (us := [([9], some (.cells [.d (.sl (List.map (D.int .u8) r_4.2.b)), .d (.int .i64 r_4.2.e)] 0))]) (by kernel_rfl) (by kernel_rfl) hc_4 (by kernel_rfl) (by kernel_rfl))) ?_
    refine RunAt.chunk 4 [⟨.ptr [6] 0 2, []⟩, ⟨.tup [], [([6], some (.cells [.d (.int .i64 (IntKind.wrap .i64 (shrI .u8 r_2.1 5))), .d (.int .i64 (IntKind.wrap .i64 (bitsOp .and .u8 (shrI .u8 r_2.1 2) 7))), .d (.int .u16 r_3.1), .d (.int .u8 0), .d (.int .i64 0), .d (.int .i64 0), .d (.int .i64 0), .d (.int .i64 0)] 0))]⟩, ⟨.ptr [6] 0 3, []⟩, ⟨.tup [], [([6], some (.cells [.d (.int .i64 (IntKind.wrap .i64 (shrI .u8 r_2.1 5))), .d (.int .i64 (IntKind.wrap .i64 (bitsOp .and .u8 (shrI .u8 r_2.1 2) 7))), .d (.int .u16 r_3.1), .d (.int .u8 r_4.1), .d (.int .i64 0), .d (.int .i64 0), .d (.int .i64 0), .d (.int .i64 0)] 0))]⟩] (by kernel_rfl) ?_
    refine RunAt.done (by kernel_rfl) ?_
    refine kS_nrm ?_
    refine Runs.canon (segs_Def_h14 ({ Align := 0, Combine := 0, Frame := 0, Offset := 0, Len := 0, Name := 0, Class := 0, Overlay := 0 } : SegDef) ({ Align := (IntKind.wrap .i64 (shrI .u8 r_2.1 5)), Combine := (IntKind.wrap .i64 (bitsOp .and .u8 (shrI .u8 r_2.1 2) 7)), Frame := r_3.1, Offset := r_4.1, Len := 0, Name := 0, Class := 0, Overlay := 0 } : SegDef) r_4.2 r_2.1) (Canon.nil (by kernel_rfl)) ?_
    exact segs_Def_j14_ok b_ ({ Align := 0, Combine := 0, Frame := 0, Offset := 0, Len := 0, Name := 0, Class := 0, Overlay := 0 } : SegDef) ({ Align := (IntKind.wrap .i64 (shrI .u8 r_2.1 5)), Combine := (IntKind.wrap .i64 (bitsOp .and .u8 (shrI .u8 r_2.1 2) 7)), Frame := r_3.1, Offset := r_4.1, Len := 0, Name := 0, Class := 0, Overlay := 0 } : SegDef) r_4.2 r_2.1 r h
  | false =>
    replace h := ite_f hb_1 h
    refine Runs.cond_f (by kernel_rfl) ?_
    refine Runs.skip ?_
    refine kS_nrm ?_
    refine Runs.canon (segs_Def_h14 ({ Align := 0, Combine := 0, Frame := 0, Offset := 0, Len := 0, Name := 0, Class := 0, Overlay := 0 } : SegDef) ({ Align := (IntKind.wrap .i64 (shrI .u8 r_2.1 5)), Combine := (IntKind.wrap .i64 (bitsOp .and .u8 (shrI .u8 r_2.1 2) 7)), Frame := 0, Offset := 0, Len := 0, Name := 0, Class := 0, Overlay := 0 } : SegDef) r_2.2 r_2.1) (Canon.nil (by kernel_rfl)) ?_
    exact segs_Def_j14_ok b_ ({ Align := 0, Combine := 0, Frame := 0, Offset := 0, Len := 0, Name := 0, Class := 0, Overlay := 0 } : SegDef) ({ Align := (IntKind.wrap .i64 (shrI .u8 r_2.1 5)), Combine := (IntKind.wrap .i64 (bitsOp .and .u8 (shrI .u8 r_2.1 2) 7)), Frame := 0, Offset := 0, Len := 0, Name := 0, Class := 0, Overlay := 0 } : SegDef) r_2.2 r_2.1 r h
theorem segs_Def_L (b_ : (List Int)) (r : (SegDef × Int)) (h : segs_Def b_ = some r) : L 61 [.d (.sl (List.map (D.int .u8) b_))] = some (.tup [.d (SegDef.d r.1), .d (.int .i64 r.2)], [.d (.sl (List.map (D.int .u8) b_))]) := by
  obtain ⟨p, ⟨hne, hf⟩, hr⟩ := segs_Def_ok b_ r h
  obtain ⟨k, hk⟩ := run_of (F := F61) (args := [.d (.sl (List.map (D.int .u8) b_))]) (ap := [.d (.sl (List.map (D.int .u8) b_))]) (bx0 := updW (fun _ => none) []) rfl rfl (by kernel_rfl) ⟨p, ⟨hne, hf⟩, hr⟩
  exact lim_run (k := k) rfl hk
def segs_Step_Q (align_ : Int) (r : Int) (p : Out × St) : Prop := (∀ i, p.1 ≠ .exit i) ∧ finF F66 [.d (.int .i64 align_)] p.2 = some (.d (.int .i64 r), [.d (.int .i64 align_)])
theorem segs_Step_ok (align_ : Int) (r : Int) (h : segs_Step align_ = some r) : Runs L F66.body ⟨tmOf [.d (.int .i64 align_)] 0, updW (fun _ => none) []⟩ (segs_Step_Q align_ r) := by
  unfold segs_Step at h
  refine Runs.seq ?_
  refine Runs.ops ?_
  refine RunAt.chunk 1 [⟨.d (.int .i64 0), []⟩] (by kernel_rfl) ?_
  refine RunAt.done (by kernel_rfl) ?_
  refine kS_nrm ?_
  refine Runs.seq ?_
  refine Runs.seq ?_
  refine Runs.ops ?_
  refine RunAt.chunk 1 [⟨.d (.int .i64 align_), []⟩] (by kernel_rfl) ?_
  refine RunAt.done (by kernel_rfl) ?_
  refine kS_nrm ?_
  refine Runs.block ?_
  refine Runs.seq ?_
  refine Runs.ops ?_
  refine RunAt.chunk 2 [⟨.d (.bool (align_ == 2)), []⟩, ⟨.d (.bool (align_ == 2)), []⟩] (by kernel_rfl) ?_
  refine RunAt.done (by kernel_rfl) ?_
  refine kS_nrm ?_
  cases hb_1 : ((align_ == 2) : Bool) with
  | true =>
    replace h := ite_t hb_1 h
    refine Runs.cond_t (by kernel_rfl) ?_
    refine Runs.seq ?_
    refine Runs.ops ?_
    refine RunAt.chunk 1 [⟨.d (.int .i64 2), []⟩] (by kernel_rfl) ?_
    refine RunAt.done (by kernel_rfl) ?_
    refine kS_nrm ?_
    refine Runs.ret ?_
    refine kB_ret ?_
    refine kS_ret ?_
    obtain rfl := Option.some.inj h
    exact ⟨Out.ret_ne, (by kernel_rfl)⟩
  | false =>
    replace h := ite_f hb_1 h
    refine Runs.cond_f (by kernel_rfl) ?_
    refine Runs.seq ?_
    refine Runs.ops ?_
    refine RunAt.chunk 2 [⟨.d (.bool (align_ == 3)), []⟩, ⟨.d (.bool (align_ == 3)), []⟩] (by kernel_rfl) ?_
    refine RunAt.done (by kernel_rfl) ?_
    refine kS_nrm ?_
    cases hb_2 : ((align_ == 3) : Bool) with
    | true =>
      replace h := ite_t hb_2 h
      refine Runs.cond_t (by kernel_rfl) ?_
      refine Runs.seq ?_
      refine Runs.ops ?_
      refine RunAt.chunk 1 [⟨.d (.int .i64 16), []⟩] (by kernel_rfl) ?_
      refine RunAt.done (by kernel_rfl) ?_
      refine kS_nrm ?_
      refine Runs.ret ?_
      refine kB_ret ?_
      refine kS_ret ?_
      obtain rfl := Option.some.inj h
      exact ⟨Out.ret_ne, (by kernel_rfl)⟩
    | false =>
      replace h := ite_f hb_2 h
      refine Runs.cond_f (by kernel_rfl) ?_
      refine Runs.seq ?_
      refine Runs.ops ?_
      refine RunAt.chunk 2 [⟨.d (.bool (align_ == 4)), []⟩, ⟨.d (.bool (align_ == 4)), []⟩] (by kernel_rfl) ?_
      refine RunAt.done (by kernel_rfl) ?_
      refine kS_nrm ?_
      cases hb_3 : ((align_ == 4) : Bool) with
      | true =>
        replace h := ite_t hb_3 h
        refine Runs.cond_t (by kernel_rfl) ?_
        refine Runs.seq ?_
        refine Runs.ops ?_
        refine RunAt.chunk 1 [⟨.d (.int .i64 256), []⟩] (by kernel_rfl) ?_
        refine RunAt.done (by kernel_rfl) ?_
        refine kS_nrm ?_
        refine Runs.ret ?_
        refine kB_ret ?_
        refine kS_ret ?_
        obtain rfl := Option.some.inj h
        exact ⟨Out.ret_ne, (by kernel_rfl)⟩
      | false =>
        replace h := ite_f hb_3 h
        refine Runs.cond_f (by kernel_rfl) ?_
        refine Runs.skip ?_
        refine kB_nrm ?_
        refine kS_nrm ?_
        refine Runs.seq ?_
        refine Runs.ops ?_
        refine RunAt.chunk 1 [⟨.d (.int .i64 1), []⟩] (by kernel_rfl) ?_
        refine RunAt.done (by kernel_rfl) ?_
        refine kS_nrm ?_
        refine Runs.ret ?_
        obtain rfl := Option.some.inj h
        exact ⟨Out.ret_ne, (by kernel_rfl)⟩
theorem segs_Step_L (align_ : Int) (r : Int) (h : segs_Step align_ = some r) : L 66 [.d (.int .i64 align_)] = some (.d (.int .i64 r), [.d (.int .i64 align_)]) := by
  obtain ⟨p, ⟨hne, hf⟩, hr⟩ := segs_Step_ok align_ r h
  obtain ⟨k, hk⟩ := run_of (F := F66) (args := [.d (.int .i64 align_)]) (ap := [.d (.int .i64 align_)]) (bx0 := updW (fun _ => none) []) rfl rfl (by kernel_rfl) ⟨p, ⟨hne, hf⟩, hr⟩
  exact lim_run (k := k) rfl hk
def hansomlaw21_awake_Q  (r : Bool) (p : Out × St) : Prop := (∀ i, p.1 ≠ .exit i) ∧ finF F58 [] p.2 = some (.d (.bool r), [])
theorem hansomlaw21_awake_ok  (r : Bool) (h : hansomlaw21_awake = some r) : Runs L F58.body ⟨tmOf [] 0, updW (fun _ => none) []⟩ (hansomlaw21_awake_Q  r) := by
  unfold hansomlaw21_awake at h
  refine Runs.seq ?_
  refine Runs.ops ?_
  refine RunAt.chunk 1 [⟨.d (.bool false), []⟩] (by kernel_rfl) ?_
  refine RunAt.done (by kernel_rfl) ?_
  refine kS_nrm ?_
  refine Runs.seq ?_
  refine Runs.ops ?_
  refine RunAt.chunk 1 [⟨.d (.agg [.int .i64 3, .int .i64 2, .int .u16 0, .int .u8 0, .int .i64 5, .int .i64 2, .int .i64 0, .int .i64 0]), []⟩] (by kernel_rfl) ?_
  obtain ⟨r_1, hr_1, h⟩ := bind_s h
  have hc_1 := segs_Segment_L ({ Align := 3, Combine := 2, Frame := 0, Offset := 0, Len := 5, Name := 2, Class := 0, Overlay := 0 } : SegDef) r_1 hr_1
  refine RunAt.cut (some 7) (.callf 57) [] none [.d (.agg [.int .i64 3, .int .i64 2, .int .u16 0, .int .u8 0, .int .i64 5, .int .i64 2, .int .i64 0, .int .i64 0])] (.tup [.d (Record.d r_1.1), .d (.bool r_1.2)]) [] (by kernel_rfl) (by kernel_rfl) (by kernel_rfl) (cut_call (call_of (ws := []) (us := []) (by kernel_rfl) (by kernel_rfl) hc_1 (by kernel_rfl) (by kernel_rfl))) ?_
  refine RunAt.chunk 6 [⟨.tup [.d (Record.d r_1.1), .d (.bool r_1.2)], []⟩, ⟨.d (Record.d r_1.1), []⟩, ⟨.d (.bool r_1.2), []⟩, ⟨.ptr [1] 0 0, [([1], some (.cells [.d (.int .u8 0), .nils] 0))]⟩, ⟨.tup [], [([1], some (.cells [.d (.int .u8 r_1.1.Kind), .d (.sl (List.map (D.int .u8) r_1.1.Body))] 0))]⟩, ⟨.d (.bool r_1.2), []⟩] (by kernel_rfl) ?_
  refine RunAt.done (by kernel_rfl) ?_
  refine kS_nrm ?_
  refine Runs.seq ?_
  refine Runs.ops ?_
  refine RunAt.chunk 2 [⟨.ptr [1] 0 1, []⟩, ⟨.d (.sl (List.map (D.int .u8) r_1.1.Body)), []⟩] (by kernel_rfl) ?_
  obtain ⟨r_2, hr_2, h⟩ := bind_s h
  have hc_2 := segs_Def_L r_1.1.Body r_2 hr_2
  refine RunAt.cut (some 13) (.callf 61) [] none [.d (.sl (List.map (D.int .u8) r_1.1.Body))] (.tup [.d (SegDef.d r_2.1), .d (.int .i64 r_2.2)]) [] (by kernel_rfl) (by kernel_rfl) (by kernel_rfl) (cut_call (call_of (ws := []) (us := []) (by kernel_rfl) (by kernel_rfl) hc_2 (by kernel_rfl) (by kernel_rfl))) ?_
  refine RunAt.chunk 6 [⟨.tup [.d (SegDef.d r_2.1), .d (.int .i64 r_2.2)], []⟩, ⟨.d (SegDef.d r_2.1), []⟩, ⟨.d (.int .i64 r_2.2), []⟩, ⟨.ptr [3] 0 0, [([3], some (.cells [.d (.int .i64 0), .d (.int .i64 0), .d (.int .u16 0), .d (.int .u8 0), .d (.int .i64 0), .d (.int .i64 0), .d (.int .i64 0), .d (.int .i64 0)] 0))]⟩, ⟨.tup [], [([3], some (.cells [.d (.int .i64 r_2.1.Align), .d (.int .i64 r_2.1.Combine), .d (.int .u16 r_2.1.Frame), .d (.int .u8 r_2.1.Offset), .d (.int .i64 r_2.1.Len), .d (.int .i64 r_2.1.Name), .d (.int .i64 r_2.1.Class), .d (.int .i64 r_2.1.Overlay)] 0))]⟩, ⟨.d (.int .i64 r_2.2), []⟩] (by kernel_rfl) ?_
  refine RunAt.done (by kernel_rfl) ?_
  refine kS_nrm ?_
  refine Runs.seq ?_
  refine Runs.ops ?_
  refine RunAt.chunk 2 [⟨.d (.bool r_1.2), []⟩, ⟨.d (.bool r_1.2), []⟩] (by kernel_rfl) ?_
  cases hb_1 : (r_1.2 : Bool) with
  | true =>
    replace h := ite_t hb_1 h
    refine RunAt.chunk 4 [⟨.d (.int .i64 r_2.2), []⟩, ⟨.d (.bool (r_2.2 == 0)), []⟩, ⟨.d (.bool (r_2.2 == 0)), []⟩, ⟨.d (.bool (r_2.2 == 0)), []⟩] (by kernel_rfl) ?_
    cases hb_2 : ((r_2.2 == 0) : Bool) with
    | true =>
      replace h := ite_t hb_2 h
      refine RunAt.chunk 5 [⟨.ptr [3] 0 4, []⟩, ⟨.d (.int .i64 r_2.1.Len), []⟩, ⟨.d (.bool (r_2.1.Len == 5)), []⟩, ⟨.d (.bool (r_2.1.Len == 5)), []⟩, ⟨.d (.bool (r_2.1.Len == 5)), []⟩] (by kernel_rfl) ?_
      cases hb_3 : ((r_2.1.Len == 5) : Bool) with
      | true =>
        replace h := ite_t hb_3 h
        refine RunAt.chunk 5 [⟨.ptr [3] 0 5, []⟩, ⟨.d (.int .i64 r_2.1.Name), []⟩, ⟨.d (.bool (r_2.1.Name == 2)), []⟩, ⟨.d (.bool (r_2.1.Name == 2)), []⟩, ⟨.d (.bool (r_2.1.Name == 2)), []⟩] (by kernel_rfl) ?_
        cases hb_4 : ((r_2.1.Name == 2) : Bool) with
        | true =>
          replace h := ite_t hb_4 h
          obtain ⟨r_3, hr_3, h⟩ := bind_s h
          have hc_3 := segs_Step_L 4 r_3 hr_3
          refine RunAt.cut (some 32) (.callf 66) [] none [.d (.int .i64 4)] (.d (.int .i64 r_3)) [] (by kernel_rfl) (by kernel_rfl) (by kernel_rfl) (cut_call (call_of (ws := []) (us := []) (by kernel_rfl) (by kernel_rfl) hc_3 (by kernel_rfl) (by kernel_rfl))) ?_
          refine RunAt.chunk 3 [⟨.d (.bool (r_3 == 256)), []⟩, ⟨.d (.bool (r_3 == 256)), []⟩, ⟨.d (.bool (r_3 == 256)), []⟩] (by kernel_rfl) ?_
          refine RunAt.done (by kernel_rfl) ?_
          refine kS_nrm ?_
          refine Runs.ret ?_
          obtain rfl := Option.some.inj h
          exact ⟨Out.ret_ne, (by kernel_rfl)⟩
        | false =>
          replace h := ite_f hb_4 h
          refine RunAt.chunk 4 [⟨.tup [], []⟩, ⟨.tup [], []⟩, ⟨.d (.bool false), []⟩, ⟨.d (.bool false), []⟩] (by kernel_rfl) ?_
          refine RunAt.done (by kernel_rfl) ?_
          refine kS_nrm ?_
          refine Runs.ret ?_
          obtain rfl := Option.some.inj h
          exact ⟨Out.ret_ne, (by kernel_rfl)⟩
      | false =>
        replace h := ite_f hb_3 h
        refine RunAt.chunk 9 [⟨.tup [], []⟩, ⟨.tup [], []⟩, ⟨.tup [], []⟩, ⟨.d (.bool false), []⟩, ⟨.d (.bool false), []⟩, ⟨.tup [], []⟩, ⟨.tup [], []⟩, ⟨.d (.bool false), []⟩, ⟨.d (.bool false), []⟩] (by kernel_rfl) ?_
        refine RunAt.done (by kernel_rfl) ?_
        refine kS_nrm ?_
        refine Runs.ret ?_
        obtain rfl := Option.some.inj h
        exact ⟨Out.ret_ne, (by kernel_rfl)⟩
    | false =>
      replace h := ite_f hb_2 h
      refine RunAt.chunk 14 [⟨.tup [], []⟩, ⟨.tup [], []⟩, ⟨.tup [], []⟩, ⟨.d (.bool false), []⟩, ⟨.d (.bool false), []⟩, ⟨.tup [], []⟩, ⟨.tup [], []⟩, ⟨.tup [], []⟩, ⟨.d (.bool false), []⟩, ⟨.d (.bool false), []⟩, ⟨.tup [], []⟩, ⟨.tup [], []⟩, ⟨.d (.bool false), []⟩, ⟨.d (.bool false), []⟩] (by kernel_rfl) ?_
      refine RunAt.done (by kernel_rfl) ?_
      refine kS_nrm ?_
      refine Runs.ret ?_
      obtain rfl := Option.some.inj h
      exact ⟨Out.ret_ne, (by kernel_rfl)⟩
  | false =>
    replace h := ite_f hb_1 h
    refine RunAt.chunk 18 [⟨.tup [], []⟩, ⟨.tup [], []⟩, ⟨.d (.bool false), []⟩, ⟨.d (.bool false), []⟩, ⟨.tup [], []⟩, ⟨.tup [], []⟩, ⟨.tup [], []⟩, ⟨.d (.bool false), []⟩, ⟨.d (.bool false), []⟩, ⟨.tup [], []⟩, ⟨.tup [], []⟩, ⟨.tup [], []⟩, ⟨.d (.bool false), []⟩, ⟨.d (.bool false), []⟩, ⟨.tup [], []⟩, ⟨.tup [], []⟩, ⟨.d (.bool false), []⟩, ⟨.d (.bool false), []⟩] (by kernel_rfl) ?_
    refine RunAt.done (by kernel_rfl) ?_
    refine kS_nrm ?_
    refine Runs.ret ?_
    obtain rfl := Option.some.inj h
    exact ⟨Out.ret_ne, (by kernel_rfl)⟩
theorem hansomlaw21_awake_L  (r : Bool) (h : hansomlaw21_awake = some r) : L 58 [] = some (.d (.bool r), []) := by
  obtain ⟨p, ⟨hne, hf⟩, hr⟩ := hansomlaw21_awake_ok  r h
  obtain ⟨k, hk⟩ := run_of (F := F58) (args := []) (ap := []) (bx0 := updW (fun _ => none) []) rfl rfl (by kernel_rfl) ⟨p, ⟨hne, hf⟩, hr⟩
  exact lim_run (k := k) rfl hk
def hansomref21_index_Q (n_ : Int) (r : Bool) (p : Out × St) : Prop := (∀ i, p.1 ≠ .exit i) ∧ finF F73 [.d (.int .i64 n_)] p.2 = some (.d (.bool r), [.d (.int .i64 n_)])
theorem hansomref21_index_ok (n_ : Int) (r : Bool) (h : hansomref21_index n_ = some r) : Runs L F73.body ⟨tmOf [.d (.int .i64 n_)] 0, updW (fun _ => none) []⟩ (hansomref21_index_Q n_ r) := by
  unfold hansomref21_index at h
  refine Runs.seq ?_
  refine Runs.ops ?_
  refine RunAt.chunk 1 [⟨.d (.bool false), []⟩] (by kernel_rfl) ?_
  refine RunAt.done (by kernel_rfl) ?_
  refine kS_nrm ?_
  refine Runs.seq ?_
  refine Runs.ops ?_
  refine RunAt.chunk 3 [⟨.d (.int .i64 n_), []⟩, ⟨.d (.bool (decide (n_ ≥ 0))), []⟩, ⟨.d (.bool (decide (n_ ≥ 0))), []⟩] (by kernel_rfl) ?_
  cases hb_1 : ((decide (n_ ≥ 0)) : Bool) with
  | true =>
    replace h := ite_t hb_1 h
    refine RunAt.chunk 4 [⟨.d (.int .i64 n_), []⟩, ⟨.d (.bool (decide (n_ ≤ 32767))), []⟩, ⟨.d (.bool (decide (n_ ≤ 32767))), []⟩, ⟨.d (.bool (decide (n_ ≤ 32767))), []⟩] (by kernel_rfl) ?_
    refine RunAt.done (by kernel_rfl) ?_
    refine kS_nrm ?_
    refine Runs.ret ?_
    obtain rfl := Option.some.inj h
    exact ⟨Out.ret_ne, (by kernel_rfl)⟩
  | false =>
    replace h := ite_f hb_1 h
    refine RunAt.chunk 4 [⟨.tup [], []⟩, ⟨.tup [], []⟩, ⟨.d (.bool false), []⟩, ⟨.d (.bool false), []⟩] (by kernel_rfl) ?_
    refine RunAt.done (by kernel_rfl) ?_
    refine kS_nrm ?_
    refine Runs.ret ?_
    obtain rfl := Option.some.inj h
    exact ⟨Out.ret_ne, (by kernel_rfl)⟩
theorem hansomref21_index_L (n_ : Int) (r : Bool) (h : hansomref21_index n_ = some r) : L 73 [.d (.int .i64 n_)] = some (.d (.bool r), [.d (.int .i64 n_)]) := by
  obtain ⟨p, ⟨hne, hf⟩, hr⟩ := hansomref21_index_ok n_ r h
  obtain ⟨k, hk⟩ := run_of (F := F73) (args := [.d (.int .i64 n_)]) (ap := [.d (.int .i64 n_)]) (bx0 := updW (fun _ => none) []) rfl rfl (by kernel_rfl) ⟨p, ⟨hne, hf⟩, hr⟩
  exact lim_run (k := k) rfl hk
def hansomref21_May_h4 (s1 : SegDef) (in3 : Bool) : St := ⟨tab [(1, .ptr [1] 0 0), (3, .d (.bool in3))], tabB [([1], some (.cells [.d (.int .i64 s1.Align), .d (.int .i64 s1.Combine), .d (.int .u16 s1.Frame), .d (.int .u8 s1.Offset), .d (.int .i64 s1.Len), .d (.int .i64 s1.Name), .d (.int .i64 s1.Class), .d (.int .i64 s1.Overlay)] 0))]⟩
def hansomref21_May_h6 (s1 : SegDef) (in3 : Bool) (c4 : Bool) : St := ⟨tab [(1, .ptr [1] 0 0), (3, .d (.bool in3)), (4, .d (.bool c4))], tabB [([1], some (.cells [.d (.int .i64 s1.Align), .d (.int .i64 s1.Combine), .d (.int .u16 s1.Frame), .d (.int .u8 s1.Offset), .d (.int .i64 s1.Len), .d (.int .i64 s1.Name), .d (.int .i64 s1.Class), .d (.int .i64 s1.Overlay)] 0))]⟩
def hansomref21_May_h8 (s1 : SegDef) (in3 : Bool) (c4 : Bool) (at5 : Bool) : St := ⟨tab [(1, .ptr [1] 0 0), (3, .d (.bool in3)), (4, .d (.bool c4)), (5, .d (.bool at5))], tabB [([1], some (.cells [.d (.int .i64 s1.Align), .d (.int .i64 s1.Combine), .d (.int .u16 s1.Frame), .d (.int .u8 s1.Offset), .d (.int .i64 s1.Len), .d (.int .i64 s1.Name), .d (.int .i64 s1.Class), .d (.int .i64 s1.Overlay)] 0))]⟩
def hansomref21_May_Q (s_ : SegDef) (r : Bool) (p : Out × St) : Prop := (∀ i, p.1 ≠ .exit i) ∧ finF F60 [.d (SegDef.d s_)] p.2 = some (.d (.bool r), [.d (SegDef.d s_)])
theorem hansomref21_May_j8_ok (s_ : SegDef) (s1 : SegDef) (in3 : Bool) (c4 : Bool) (at5 : Bool) (r : Bool) (h : hansomref21_May_j8 s1 in3 c4 at5 = some r) : Runs L F60b8 (hansomref21_May_h8 s1 in3 c4 at5) (hansomref21_May_Q s_ r) := by
  unfold hansomref21_May_j8 at h
  refine Runs.seq ?_
  refine Runs.ops ?_
  refine RunAt.chunk 2 [⟨.d (.bool in3), []⟩, ⟨.d (.bool in3), []⟩] (by kernel_rfl) ?_
  cases hb_5 : (in3 : Bool) with
  | true =>
    replace h := ite_t hb_5 h
    refine RunAt.chunk 3 [⟨.d (.bool c4), []⟩, ⟨.d (.bool c4), []⟩, ⟨.d (.bool c4), []⟩] (by kernel_rfl) ?_
    cases hb_6 : (c4 : Bool) with
    | true =>
      replace h := ite_t hb_6 h
      refine RunAt.chunk 3 [⟨.d (.bool at5), []⟩, ⟨.d (.bool at5), []⟩, ⟨.d (.bool at5), []⟩] (by kernel_rfl) ?_
      cases hb_7 : (at5 : Bool) with
      | true =>
        replace h := ite_t hb_7 h
        refine RunAt.chunk 5 [⟨.ptr [1] 0 0, []⟩, ⟨.d (.int .i64 s1.Align), []⟩, ⟨.d (.bool (decide (s1.Align ≥ 0))), []⟩, ⟨.d (.bool (decide (s1.Align ≥ 0))), []⟩, ⟨.d (.bool (decide (s1.Align ≥ 0))), []⟩] (by kernel_rfl) ?_
        cases hb_8 : ((decide (s1.Align ≥ 0)) : Bool) with
        | true =>
          replace h := ite_t hb_8 h
          refine RunAt.chunk 5 [⟨.ptr [1] 0 0, []⟩, ⟨.d (.int .i64 s1.Align), []⟩, ⟨.d (.bool (decide (s1.Align ≤ 4))), []⟩, ⟨.d (.bool (decide (s1.Align ≤ 4))), []⟩, ⟨.d (.bool (decide (s1.Align ≤ 4))), []⟩] (by kernel_rfl) ?_
          cases hb_9 : ((decide (s1.Align ≤ 4)) : Bool) with
          | true =>
            replace h := ite_t hb_9 h
            refine RunAt.chunk 5 [⟨.ptr [1] 0 4, []⟩, ⟨.d (.int .i64 s1.Len), []⟩, ⟨.d (.bool (decide (s1.Len ≥ 0))), []⟩, ⟨.d (.bool (decide (s1.Len ≥ 0))), []⟩, ⟨.d (.bool (decide (s1.Len ≥ 0))), []⟩] (by kernel_rfl) ?_
            cases hb_10 : ((decide (s1.Len ≥ 0)) : Bool) with
            | true =>
              replace h := ite_t hb_10 h
              refine RunAt.chunk 5 [⟨.ptr [1] 0 4, []⟩, ⟨.d (.int .i64 s1.Len), []⟩, ⟨.d (.bool (decide (s1.Len ≤ 65536))), []⟩, ⟨.d (.bool (decide (s1.Len ≤ 65536))), []⟩, ⟨.d (.bool (decide (s1.Len ≤ 65536))), []⟩] (by kernel_rfl) ?_
              refine RunAt.done (by kernel_rfl) ?_
              refine kS_nrm ?_
              refine Runs.ret ?_
              obtain rfl := Option.some.inj h
              exact ⟨Out.ret_ne, (by kernel_rfl)⟩
            | false =>
              replace h := ite_f hb_10 h
              refine RunAt.chunk 5 [⟨.tup [], []⟩, ⟨.tup [], []⟩, ⟨.tup [], []⟩, ⟨.d (.bool false), []⟩, ⟨.d (.bool false), []⟩] (by kernel_rfl) ?_
              refine RunAt.done (by kernel_rfl) ?_
              refine kS_nrm ?_
              refine Runs.ret ?_
              obtain rfl := Option.some.inj h
              exact ⟨Out.ret_ne, (by kernel_rfl)⟩
          | false =>
            replace h := ite_f hb_9 h
            refine RunAt.chunk 10 [⟨.tup [], []⟩, ⟨.tup [], []⟩, ⟨.tup [], []⟩, ⟨.d (.bool false), []⟩, ⟨.d (.bool false), []⟩, ⟨.tup [], []⟩, ⟨.tup [], []⟩, ⟨.tup [], []⟩, ⟨.d (.bool false), []⟩, ⟨.d (.bool false), []⟩] (by kernel_rfl) ?_
            refine RunAt.done (by kernel_rfl) ?_
            refine kS_nrm ?_
            refine Runs.ret ?_
            obtain rfl := Option.some.inj h
            exact ⟨Out.ret_ne, (by kernel_rfl)⟩
        | false =>
          replace h := ite_f hb_8 h
          refine RunAt.chunk 15 [⟨.tup [], []⟩, ⟨.tup [], []⟩, ⟨.tup [], []⟩, ⟨.d (.bool false), []⟩, ⟨.d (.bool false), []⟩, ⟨.tup [], []⟩, ⟨.tup [], []⟩, ⟨.tup [], []⟩, ⟨.d (.bool false), []⟩, ⟨.d (.bool false), []⟩, ⟨.tup [], []⟩, ⟨.tup [], []⟩, ⟨.tup [], []⟩, ⟨.d (.bool false), []⟩, ⟨.d (.bool false), []⟩] (by kernel_rfl) ?_
          refine RunAt.done (by kernel_rfl) ?_
          refine kS_nrm ?_
          refine Runs.ret ?_
          obtain rfl := Option.some.inj h
          exact ⟨Out.ret_ne, (by kernel_rfl)⟩
      | false =>
        replace h := ite_f hb_7 h
        refine RunAt.chunk 20 [⟨.tup [], []⟩, ⟨.tup [], []⟩, ⟨.tup [], []⟩, ⟨.d (.bool false), []⟩, ⟨.d (.bool false), []⟩, ⟨.tup [], []⟩, ⟨.tup [], []⟩, ⟨.tup [], []⟩, ⟨.d (.bool false), []⟩, ⟨.d (.bool false), []⟩, ⟨.tup [], []⟩, ⟨.tup [], []⟩, ⟨.tup [], []⟩, ⟨.d (.bool false), []⟩, ⟨.d (.bool false), []⟩, ⟨.tup [], []⟩, ⟨.tup [], []⟩, ⟨.tup [], []⟩, ⟨.d (.bool false), []⟩, ⟨.d (.bool false), []⟩] (by kernel_rfl) ?_
        refine RunAt.done (by kernel_rfl) ?_
        refine kS_nrm ?_
        refine Runs.ret ?_
        obtain rfl := Option.some.inj h
        exact ⟨Out.ret_ne, (by kernel_rfl)⟩
    | false =>
      replace h := ite_f hb_6 h
      refine RunAt.chunk 23 [⟨.tup [], []⟩, ⟨.d (.bool false), []⟩, ⟨.d (.bool false), []⟩, ⟨.tup [], []⟩, ⟨.tup [], []⟩, ⟨.tup [], []⟩, ⟨.d (.bool false), []⟩, ⟨.d (.bool false), []⟩, ⟨.tup [], []⟩, ⟨.tup [], []⟩, ⟨.tup [], []⟩, ⟨.d (.bool false), []⟩, ⟨.d (.bool false), []⟩, ⟨.tup [], []⟩, ⟨.tup [], []⟩, ⟨.tup [], []⟩, ⟨.d (.bool false), []⟩, ⟨.d (.bool false), []⟩, ⟨.tup [], []⟩, ⟨.tup [], []⟩, ⟨.tup [], []⟩, ⟨.d (.bool false), []⟩, ⟨.d (.bool false), []⟩] (by kernel_rfl) ?_
      refine RunAt.done (by kernel_rfl) ?_
      refine kS_nrm ?_
      refine Runs.ret ?_
      obtain rfl := Option.some.inj h
      exact ⟨Out.ret_ne, (by kernel_rfl)⟩
  | false =>
    replace h := ite_f hb_5 h
    refine RunAt.chunk 26 [⟨.tup [], []⟩, ⟨.d (.bool false), []⟩, ⟨.d (.bool false), []⟩, ⟨.tup [], []⟩, ⟨.d (.bool false), []⟩, ⟨.d (.bool false), []⟩, ⟨.tup [], []⟩, ⟨.tup [], []⟩, ⟨.tup [], []⟩, ⟨.d (.bool false), []⟩, ⟨.d (.bool false), []⟩, ⟨.tup [], []⟩, ⟨.tup [], []⟩, ⟨.tup [], []⟩, ⟨.d (.bool false), []⟩, ⟨.d (.bool false), []⟩, ⟨.tup [], []⟩, ⟨.tup [], []⟩, ⟨.tup [], []⟩, ⟨.d (.bool false), []⟩, ⟨.d (.bool false), []⟩, ⟨.tup [], []⟩, ⟨.tup [], []⟩, ⟨.tup [], []⟩, ⟨.d (.bool false), []⟩, ⟨.d (.bool false), []⟩] (by kernel_rfl) ?_
    refine RunAt.done (by kernel_rfl) ?_
    refine kS_nrm ?_
    refine Runs.ret ?_
    obtain rfl := Option.some.inj h
    exact ⟨Out.ret_ne, (by kernel_rfl)⟩
theorem hansomref21_May_j6_ok (s_ : SegDef) (s1 : SegDef) (in3 : Bool) (c4 : Bool) (r : Bool) (h : hansomref21_May_j6 s1 in3 c4 = some r) : Runs L F60b6 (hansomref21_May_h6 s1 in3 c4) (hansomref21_May_Q s_ r) := by
  unfold hansomref21_May_j6 at h
  refine Runs.seq ?_
  refine Runs.ops ?_
  refine RunAt.chunk 4 [⟨.ptr [1] 0 0, []⟩, ⟨.d (.int .i64 s1.Align), []⟩, ⟨.d (.bool (s1.Align == 0)), []⟩, ⟨.d (.bool (s1.Align == 0)), []⟩] (by kernel_rfl) ?_
  cases hb_4 : ((s1.Align == 0) : Bool) with
  | true =>
    replace h := ite_t hb_4 h
    refine RunAt.chunk 10 [⟨.tup [], []⟩, ⟨.tup [], []⟩, ⟨.tup [], []⟩, ⟨.tup [], []⟩, ⟨.tup [], []⟩, ⟨.tup [], []⟩, ⟨.tup [], []⟩, ⟨.tup [], []⟩, ⟨.d (.bool true), []⟩, ⟨.d (.bool true), []⟩] (by kernel_rfl) ?_
    refine RunAt.done (by kernel_rfl) ?_
    refine kS_nrm ?_
    refine Runs.canon (hansomref21_May_h8 s1 in3 c4 true) (Canon.nil (by kernel_rfl)) ?_
    exact hansomref21_May_j8_ok s_ s1 in3 c4 true r h
  | false =>
    replace h := ite_f hb_4 h
    refine RunAt.chunk 4 [⟨.ptr [1] 0 2, []⟩, ⟨.d (.int .u16 s1.Frame), []⟩, ⟨.d (.bool (s1.Frame == 0)), []⟩, ⟨.d (.bool (s1.Frame == 0)), []⟩] (by kernel_rfl) ?_
    cases hb_11 : ((s1.Frame == 0) : Bool) with
    | true =>
      replace h := ite_t hb_11 h
      refine RunAt.chunk 6 [⟨.ptr [1] 0 3, []⟩, ⟨.d (.int .u8 s1.Offset), []⟩, ⟨.d (.bool (s1.Offset == 0)), []⟩, ⟨.d (.bool (s1.Offset == 0)), []⟩, ⟨.d (.bool (s1.Offset == 0)), []⟩, ⟨.d (.bool (s1.Offset == 0)), []⟩] (by kernel_rfl) ?_
      refine RunAt.done (by kernel_rfl) ?_
      refine kS_nrm ?_
      refine Runs.canon (hansomref21_May_h8 s1 in3 c4 (s1.Offset == 0)) (Canon.nil (by kernel_rfl)) ?_
      exact hansomref21_May_j8_ok s_ s1 in3 c4 (s1.Offset == 0) r h
    | false =>
      replace h := ite_f hb_11 h
      refine RunAt.chunk 6 [⟨.tup [], []⟩, ⟨.tup [], []⟩, ⟨.tup [], []⟩, ⟨.d (.bool false), []⟩, ⟨.d (.bool false), []⟩, ⟨.d (.bool false), []⟩] (by kernel_rfl) ?_
      refine RunAt.done (by kernel_rfl) ?_
      refine kS_nrm ?_
      refine Runs.canon (hansomref21_May_h8 s1 in3 c4 false) (Canon.nil (by kernel_rfl)) ?_
      exact hansomref21_May_j8_ok s_ s1 in3 c4 false r h
theorem hansomref21_May_j4_ok (s_ : SegDef) (s1 : SegDef) (in3 : Bool) (r : Bool) (h : hansomref21_May_j4 s1 in3 = some r) : Runs L F60b4 (hansomref21_May_h4 s1 in3) (hansomref21_May_Q s_ r) := by
  unfold hansomref21_May_j4 at h
  refine Runs.seq ?_
  refine Runs.ops ?_
  refine RunAt.chunk 4 [⟨.ptr [1] 0 1, []⟩, ⟨.d (.int .i64 s1.Combine), []⟩, ⟨.d (.bool (s1.Combine == 0)), []⟩, ⟨.d (.bool (s1.Combine == 0)), []⟩] (by kernel_rfl) ?_
  cases hb_3 : ((s1.Combine == 0) : Bool) with
  | true =>
    replace h := ite_t hb_3 h
    refine RunAt.chunk 15 [⟨.tup [], []⟩, ⟨.tup [], []⟩, ⟨.tup [], []⟩, ⟨.d (.bool true), []⟩, ⟨.d (.bool true), []⟩, ⟨.tup [], []⟩, ⟨.tup [], []⟩, ⟨.tup [], []⟩, ⟨.d (.bool true), []⟩, ⟨.d (.bool true), []⟩, ⟨.tup [], []⟩, ⟨.tup [], []⟩, ⟨.tup [], []⟩, ⟨.d (.bool true), []⟩, ⟨.d (.bool true), []⟩] (by kernel_rfl) ?_
    refine RunAt.done (by kernel_rfl) ?_
    refine kS_nrm ?_
    refine Runs.canon (hansomref21_May_h6 s1 in3 true) (Canon.nil (by kernel_rfl)) ?_
    exact hansomref21_May_j6_ok s_ s1 in3 true r h
  | false =>
    replace h := ite_f hb_3 h
    refine RunAt.chunk 5 [⟨.ptr [1] 0 1, []⟩, ⟨.d (.int .i64 s1.Combine), []⟩, ⟨.d (.bool (s1.Combine == 2)), []⟩, ⟨.d (.bool (s1.Combine == 2)), []⟩, ⟨.d (.bool (s1.Combine == 2)), []⟩] (by kernel_rfl) ?_
    cases hb_12 : ((s1.Combine == 2) : Bool) with
    | true =>
      replace h := ite_t hb_12 h
      refine RunAt.chunk 10 [⟨.tup [], []⟩, ⟨.tup [], []⟩, ⟨.tup [], []⟩, ⟨.d (.bool true), []⟩, ⟨.d (.bool true), []⟩, ⟨.tup [], []⟩, ⟨.tup [], []⟩, ⟨.tup [], []⟩, ⟨.d (.bool true), []⟩, ⟨.d (.bool true), []⟩] (by kernel_rfl) ?_
      refine RunAt.done (by kernel_rfl) ?_
      refine kS_nrm ?_
      refine Runs.canon (hansomref21_May_h6 s1 in3 true) (Canon.nil (by kernel_rfl)) ?_
      exact hansomref21_May_j6_ok s_ s1 in3 true r h
    | false =>
      replace h := ite_f hb_12 h
      refine RunAt.chunk 5 [⟨.ptr [1] 0 1, []⟩, ⟨.d (.int .i64 s1.Combine), []⟩, ⟨.d (.bool (s1.Combine == 5)), []⟩, ⟨.d (.bool (s1.Combine == 5)), []⟩, ⟨.d (.bool (s1.Combine == 5)), []⟩] (by kernel_rfl) ?_
      cases hb_13 : ((s1.Combine == 5) : Bool) with
      | true =>
        replace h := ite_t hb_13 h
        refine RunAt.chunk 5 [⟨.tup [], []⟩, ⟨.tup [], []⟩, ⟨.tup [], []⟩, ⟨.d (.bool true), []⟩, ⟨.d (.bool true), []⟩] (by kernel_rfl) ?_
        refine RunAt.done (by kernel_rfl) ?_
        refine kS_nrm ?_
        refine Runs.canon (hansomref21_May_h6 s1 in3 true) (Canon.nil (by kernel_rfl)) ?_
        exact hansomref21_May_j6_ok s_ s1 in3 true r h
      | false =>
        replace h := ite_f hb_13 h
        refine RunAt.chunk 5 [⟨.ptr [1] 0 1, []⟩, ⟨.d (.int .i64 s1.Combine), []⟩, ⟨.d (.bool (s1.Combine == 6)), []⟩, ⟨.d (.bool (s1.Combine == 6)), []⟩, ⟨.d (.bool (s1.Combine == 6)), []⟩] (by kernel_rfl) ?_
        refine RunAt.done (by kernel_rfl) ?_
        refine kS_nrm ?_
        refine Runs.canon (hansomref21_May_h6 s1 in3 (s1.Combine == 6)) (Canon.nil (by kernel_rfl)) ?_
        exact hansomref21_May_j6_ok s_ s1 in3 (s1.Combine == 6) r h
theorem hansomref21_May_ok (s_ : SegDef) (r : Bool) (h : hansomref21_May s_ = some r) : Runs L F60.body ⟨tmOf [.d (SegDef.d s_)] 0, updW (fun _ => none) []⟩ (hansomref21_May_Q s_ r) := by
  unfold hansomref21_May at h
  refine Runs.seq ?_
  refine Runs.ops ?_
  refine RunAt.chunk 2 [⟨.ptr [1] 0 0, [([1], some (.cells [.d (.int .i64 s_.Align), .d (.int .i64 s_.Combine), .d (.int .u16 s_.Frame), .d (.int .u8 s_.Offset), .d (.int .i64 s_.Len), .d (.int .i64 s_.Name), .d (.int .i64 s_.Class), .d (.int .i64 s_.Overlay)] 0))]⟩, ⟨.d (.bool false), []⟩] (by kernel_rfl) ?_
  refine RunAt.done (by kernel_rfl) ?_
  refine kS_nrm ?_
  refine Runs.seq ?_
  refine Runs.ops ?_
  refine RunAt.chunk 2 [⟨.ptr [1] 0 5, []⟩, ⟨.d (.int .i64 s_.Name), []⟩] (by kernel_rfl) ?_
  obtain ⟨r_1, hr_1, h⟩ := bind_s h
  have hc_1 := hansomref21_index_L s_.Name r_1 hr_1
  refine RunAt.cut (some 8) (.callf 73) [] none [.d (.int .i64 s_.Name)] (.d (.bool r_1)) [] (by kernel_rfl) (by kernel_rfl) (by kernel_rfl) (cut_call (call_of (ws := []) (us := []) (by kernel_rfl) (by kernel_rfl) hc_1 (by kernel_rfl) (by kernel_rfl))) ?_
  refine RunAt.chunk 1 [⟨.d (.bool r_1), []⟩] (by kernel_rfl) ?_
  cases hb_1 : (r_1 : Bool) with
  | true =>
    replace h := ite_t hb_1 h
    refine RunAt.chunk 2 [⟨.ptr [1] 0 6, []⟩, ⟨.d (.int .i64 s_.Class), []⟩] (by kernel_rfl) ?_
    obtain ⟨r_2, hr_2, h⟩ := bind_s h
    have hc_2 := hansomref21_index_L s_.Class r_2 hr_2
    refine RunAt.cut (some 12) (.callf 73) [] none [.d (.int .i64 s_.Class)] (.d (.bool r_2)) [] (by kernel_rfl) (by kernel_rfl) (by kernel_rfl) (cut_call (call_of (ws := []) (us := []) (by kernel_rfl) (by kernel_rfl) hc_2 (by kernel_rfl) (by kernel_rfl))) ?_
    refine RunAt.chunk 2 [⟨.d (.bool r_2), []⟩, ⟨.d (.bool r_2), []⟩] (by kernel_rfl) ?_
    cases hb_2 : (r_2 : Bool) with
    | true =>
      replace h := ite_t hb_2 h
      refine RunAt.chunk 2 [⟨.ptr [1] 0 7, []⟩, ⟨.d (.int .i64 s_.Overlay), []⟩] (by kernel_rfl) ?_
      obtain ⟨r_3, hr_3, h⟩ := bind_s h
      have hc_3 := hansomref21_index_L s_.Overlay r_3 hr_3
      refine RunAt.cut (some 17) (.callf 73) [] none [.d (.int .i64 s_.Overlay)] (.d (.bool r_3)) [] (by kernel_rfl) (by kernel_rfl) (by kernel_rfl) (cut_call (call_of (ws := []) (us := []) (by kernel_rfl) (by kernel_rfl) hc_3 (by kernel_rfl) (by kernel_rfl))) ?_
      refine RunAt.chunk 2 [⟨.d (.bool r_3), []⟩, ⟨.d (.bool r_3), []⟩] (by kernel_rfl) ?_
      refine RunAt.done (by kernel_rfl) ?_
      refine kS_nrm ?_
      refine Runs.canon (hansomref21_May_h4 s_ r_3) (Canon.nil (by kernel_rfl)) ?_
      exact hansomref21_May_j4_ok s_ s_ r_3 r h
    | false =>
      replace h := ite_f hb_2 h
      refine RunAt.chunk 5 [⟨.tup [], []⟩, ⟨.tup [], []⟩, ⟨.tup [], []⟩, ⟨.d (.bool false), []⟩, ⟨.d (.bool false), []⟩] (by kernel_rfl) ?_
      refine RunAt.done (by kernel_rfl) ?_
      refine kS_nrm ?_
      refine Runs.canon (hansomref21_May_h4 s_ false) (Canon.nil (by kernel_rfl)) ?_
      exact hansomref21_May_j4_ok s_ s_ false r h
  | false =>
    replace h := ite_f hb_1 h
    refine RunAt.chunk 10 [⟨.tup [], []⟩, ⟨.tup [], []⟩, ⟨.tup [], []⟩, ⟨.d (.bool false), []⟩, ⟨.d (.bool false), []⟩, ⟨.tup [], []⟩, ⟨.tup [], []⟩, ⟨.tup [], []⟩, ⟨.d (.bool false), []⟩, ⟨.d (.bool false), []⟩] (by kernel_rfl) ?_
    refine RunAt.done (by kernel_rfl) ?_
    refine kS_nrm ?_
    refine Runs.canon (hansomref21_May_h4 s_ false) (Canon.nil (by kernel_rfl)) ?_
    exact hansomref21_May_j4_ok s_ s_ false r h
theorem hansomref21_May_L (s_ : SegDef) (r : Bool) (h : hansomref21_May s_ = some r) : L 60 [.d (SegDef.d s_)] = some (.d (.bool r), [.d (SegDef.d s_)]) := by
  obtain ⟨p, ⟨hne, hf⟩, hr⟩ := hansomref21_May_ok s_ r h
  obtain ⟨k, hk⟩ := run_of (F := F60) (args := [.d (SegDef.d s_)]) (ap := [.d (SegDef.d s_)]) (bx0 := updW (fun _ => none) []) rfl rfl (by kernel_rfl) ⟨p, ⟨hne, hf⟩, hr⟩
  exact lim_run (k := k) rfl hk
def hansomref18_Bytes_h8 (n0 : Int) (many1 : Int) (s5 : (List UInt8)) (i6 : Int) : St := ⟨tab [(0, .d (.int .u64 n0)), (1, .d (.int .i64 many1)), (5, .d (.str s5)), (6, .d (.int .i64 i6))], tabB []⟩
def hansomref18_Bytes_h21 (s5 : (List UInt8)) : St := ⟨tab [(5, .d (.str s5))], tabB []⟩
def hansomref18_Bytes_Q (n_ : Int) (many_ : Int) (r : (List UInt8)) (p : Out × St) : Prop := (∀ i, p.1 ≠ .exit i) ∧ finF F21 [.d (.int .u64 n_), .d (.int .i64 many_)] p.2 = some (.d (.str r), [.d (.int .u64 n_), .d (.int .i64 many_)])
def hansomref18_Bytes_P8 (n_ : Int) (many_ : Int) (many1 : Int) (e : (List UInt8)) (p : Out × St) : Prop := p.1 = .exit 0 ∧ ∃ g : Unit, Canon [] [5] [] p.2 (hansomref18_Bytes_h21 e)
theorem hansomref18_Bytes_l8_ok (n_ : Int) (many_ : Int) (n0 : Int) (many1 : Int) (s5 : (List UInt8)) (i6 : Int) (r : (Lp (Int × (List UInt8) × Int) (List UInt8))) (h : hansomref18_Bytes_l8 n0 many1 s5 i6 = some r) : Runs L F21l8 (hansomref18_Bytes_h8 n0 many1 s5 i6) (LQ [] [0, 1, 5, 6] [] (fun (x : (Int × (List UInt8) × Int)) (g : Unit) => hansomref18_Bytes_h8 x.1 many1 x.2.1 x.2.2) (hansomref18_Bytes_P8 n_ many_ many1) r) := by
  unfold hansomref18_Bytes_l8 at h
  refine Runs.seq ?_
  refine Runs.seq ?_
  refine Runs.ops ?_
  refine RunAt.chunk 3 [⟨.d (.int .i64 i6), []⟩, ⟨.d (.int .i64 many1), []⟩, ⟨.d (.bool (decide (i6 < many1))), []⟩] (by kernel_rfl) ?_
  refine RunAt.done (by kernel_rfl) ?_
  refine kS_nrm ?_
  cases hb_1 : ((decide (i6 < many1)) : Bool) with
  | true =>
    replace h := ite_t hb_1 h
    refine Runs.cond_t (by kernel_rfl) ?_
    refine Runs.skip ?_
    refine kS_nrm ?_
    refine Runs.seq ?_
    refine Runs.block ?_
    refine Runs.seq ?_
    refine Runs.ops ?_
    refine RunAt.chunk 5 [⟨.d (.str s5), []⟩, ⟨.d (.int .u64 n0), []⟩, ⟨.d (.int .u64 (Int.tmod n0 256)), []⟩, ⟨.d (.int .u8 (IntKind.wrap .u8 (Int.tmod n0 256))), []⟩, ⟨.ref [16] 0 0 (List.map (D.int .u8) ([(IntKind.wrap .u8 (Int.tmod n0 256))] : List Int)).length 1, [([16], some (.arr (List.map (D.int .u8) ([(IntKind.wrap .u8 (Int.tmod n0 256))] : List Int)) 0 false))]⟩] (by kernel_rfl) ?_
    refine RunAt.cut (some 17) .bytesStr [] none [.ref [16] 0 0 (List.map (D.int .u8) ([(IntKind.wrap .u8 (Int.tmod n0 256))] : List Int)).length 1] (.d (.str (b2s ([(IntKind.wrap .u8 (Int.tmod n0 256))] : List Int)))) [] (by kernel_rfl) (by kernel_rfl) (by kernel_rfl) (cut_bsR (l := ([(IntKind.wrap .u8 (Int.tmod n0 256))] : List Int)) (fz := false) (by kernel_rfl) (by kernel_rfl) rfl) ?_
    obtain ⟨z_1, hz_1, h⟩ := bind_s h
    refine RunAt.cut (some 18) (.bin .add) [] none [.d (.str s5), .d (.str (b2s ([(IntKind.wrap .u8 (Int.tmod n0 256))] : List Int)))] (.d (.str z_1)) [] (by kernel_rfl) (by kernel_rfl) (by kernel_rfl) (cut_cat hz_1) ?_
    refine RunAt.chunk 1 [⟨.d (.str z_1), []⟩] (by kernel_rfl) ?_
    refine RunAt.done (by kernel_rfl) ?_
    refine kS_nrm ?_
    refine Runs.ops ?_
    refine RunAt.chunk 3 [⟨.d (.int .u64 n0), []⟩, ⟨.d (.int .u64 (IntKind.wrap .u64 (Int.tdiv n0 256))), []⟩, ⟨.d (.int .u64 (IntKind.wrap .u64 (Int.tdiv n0 256))), []⟩] (by kernel_rfl) ?_
    refine RunAt.done (by kernel_rfl) ?_
    refine kB_nrm ?_
    refine kS_nrm ?_
    refine Runs.ops ?_
    refine RunAt.chunk 3 [⟨.d (.int .i64 i6), []⟩, ⟨.d (.int .i64 (IntKind.wrap .i64 (i6 + 1))), []⟩, ⟨.d (.int .i64 (IntKind.wrap .i64 (i6 + 1))), []⟩] (by kernel_rfl) ?_
    refine RunAt.done (by kernel_rfl) ?_
    obtain rfl := Option.some.inj h
    exact ⟨rfl, (), (Canon.nil (by kernel_rfl))⟩
  | false =>
    replace h := ite_f hb_1 h
    refine Runs.cond_f (by kernel_rfl) ?_
    refine Runs.exit ?_
    refine kS_exit ?_
    obtain rfl := Option.some.inj h
    exact ⟨nofun, rfl, (), (Canon.nil (by kernel_rfl))⟩
theorem hansomref18_Bytes_ok (n_ : Int) (many_ : Int) (r : (List UInt8)) (h : hansomref18_Bytes n_ many_ = some r) : Runs L F21.body ⟨tmOf [.d (.int .u64 n_), .d (.int .i64 many_)] 0, updW (fun _ => none) []⟩ (hansomref18_Bytes_Q n_ many_ r) := by
  unfold hansomref18_Bytes at h
  refine Runs.seq ?_
  refine Runs.ops ?_
  refine RunAt.chunk 1 [⟨.d (.str ([] : List UInt8)), []⟩] (by kernel_rfl) ?_
  refine RunAt.done (by kernel_rfl) ?_
  refine kS_nrm ?_
  refine Runs.seq ?_
  refine Runs.ops ?_
  refine RunAt.chunk 1 [⟨.d (.str ([] : List UInt8)), []⟩] (by kernel_rfl) ?_
  refine RunAt.done (by kernel_rfl) ?_
  refine kS_nrm ?_
  refine Runs.seq ?_
  refine Runs.seq ?_
  refine Runs.ops ?_
  refine RunAt.chunk 1 [⟨.d (.int .i64 0), []⟩] (by kernel_rfl) ?_
  refine RunAt.done (by kernel_rfl) ?_
  refine kS_nrm ?_
  refine Runs.block ?_
  obtain ⟨e_1, he_1, h⟩ := bind_s h
  refine Runs.loop (fun x : (Int × (List UInt8) × Int) => hansomref18_Bytes_l8 x.1 many_ x.2.1 x.2.2) (fun (x : (Int × (List UInt8) × Int)) (g : Unit) => hansomref18_Bytes_h8 x.1 many_ x.2.1 x.2.2) (hansomref18_Bytes_P8 n_ many_ many_) (fun x g r hr => hansomref18_Bytes_l8_ok n_ many_ x.1 many_ x.2.1 x.2.2  r hr) () he_1 (Canon.nil (by kernel_rfl)) ?_
  rintro ⟨o, s⟩ hp
  obtain ⟨ho, g_1, hk_1⟩ := hp
  have ho' : o = .exit 0 := ho
  subst ho'
  refine kB_hit ?_
  refine kS_nrm ?_
  refine Runs.canon _ hk_1 ?_
  refine Runs.seq ?_
  refine Runs.ops ?_
  refine RunAt.chunk 2 [⟨.d (.str e_1), []⟩, ⟨.d (.str e_1), []⟩] (by kernel_rfl) ?_
  refine RunAt.done (by kernel_rfl) ?_
  refine kS_nrm ?_
  refine Runs.ret ?_
  obtain rfl := Option.some.inj h
  exact ⟨Out.ret_ne, (by kernel_rfl)⟩
theorem hansomref18_Bytes_L (n_ : Int) (many_ : Int) (r : (List UInt8)) (h : hansomref18_Bytes n_ many_ = some r) : L 21 [.d (.int .u64 n_), .d (.int .i64 many_)] = some (.d (.str r), [.d (.int .u64 n_), .d (.int .i64 many_)]) := by
  obtain ⟨p, ⟨hne, hf⟩, hr⟩ := hansomref18_Bytes_ok n_ many_ r h
  obtain ⟨k, hk⟩ := run_of (F := F21) (args := [.d (.int .u64 n_), .d (.int .i64 many_)]) (ap := [.d (.int .u64 n_), .d (.int .i64 many_)]) (bx0 := updW (fun _ => none) []) rfl rfl (by kernel_rfl) ⟨p, ⟨hne, hf⟩, hr⟩
  exact lim_run (k := k) rfl hk
def hansomref18_Index_h8 (n0 : Int) : St := ⟨tab [(0, .d (.int .i64 n0))], tabB []⟩
def hansomref18_Index_Q (n_ : Int) (r : (List UInt8)) (p : Out × St) : Prop := (∀ i, p.1 ≠ .exit i) ∧ finF F17 [.d (.int .i64 n_)] p.2 = some (.d (.str r), [.d (.int .i64 n_)])
theorem hansomref18_Index_j8_ok (n_ : Int) (n0 : Int) (r : (List UInt8)) (h : hansomref18_Index_j8 n0 = some r) : Runs L F17b8 (hansomref18_Index_h8 n0) (hansomref18_Index_Q n_ r) := by
  unfold hansomref18_Index_j8 at h
  refine Runs.seq ?_
  refine Runs.seq ?_
  refine Runs.ops ?_
  refine RunAt.chunk 2 [⟨.d (.int .i64 n0), []⟩, ⟨.d (.bool (decide (n0 < 128))), []⟩] (by kernel_rfl) ?_
  refine RunAt.done (by kernel_rfl) ?_
  refine kS_nrm ?_
  cases hb_2 : ((decide (n0 < 128)) : Bool) with
  | true =>
    replace h := ite_t hb_2 h
    refine Runs.cond_t (by kernel_rfl) ?_
    refine Runs.seq ?_
    refine Runs.ops ?_
    refine RunAt.chunk 3 [⟨.d (.int .i64 n0), []⟩, ⟨.d (.int .u8 (IntKind.wrap .u8 n0)), []⟩, ⟨.ref [13] 0 0 (List.map (D.int .u8) ([(IntKind.wrap .u8 n0)] : List Int)).length 1, [([13], some (.arr (List.map (D.int .u8) ([(IntKind.wrap .u8 n0)] : List Int)) 0 false))]⟩] (by kernel_rfl) ?_
    refine RunAt.cut (some 14) .bytesStr [] none [.ref [13] 0 0 (List.map (D.int .u8) ([(IntKind.wrap .u8 n0)] : List Int)).length 1] (.d (.str (b2s ([(IntKind.wrap .u8 n0)] : List Int)))) [] (by kernel_rfl) (by kernel_rfl) (by kernel_rfl) (cut_bsR (l := ([(IntKind.wrap .u8 n0)] : List Int)) (fz := false) (by kernel_rfl) (by kernel_rfl) rfl) ?_
    refine RunAt.chunk 1 [⟨.d (.str (b2s ([(IntKind.wrap .u8 n0)] : List Int))), []⟩] (by kernel_rfl) ?_
    refine RunAt.done (by kernel_rfl) ?_
    refine kS_nrm ?_
    refine Runs.ret ?_
    refine kS_ret ?_
    obtain rfl := Option.some.inj h
    exact ⟨Out.ret_ne, (by kernel_rfl)⟩
  | false =>
    replace h := ite_f hb_2 h
    refine Runs.cond_f (by kernel_rfl) ?_
    refine Runs.skip ?_
    refine kS_nrm ?_
    refine Runs.seq ?_
    refine Runs.ops ?_
    refine RunAt.chunk 8 [⟨.d (.int .i64 n0), []⟩, ⟨.d (.int .i64 (IntKind.wrap .i64 (Int.tdiv n0 256))), []⟩, ⟨.d (.int .i64 (IntKind.wrap .i64 ((IntKind.wrap .i64 (Int.tdiv n0 256)) + 128))), []⟩, ⟨.d (.int .u8 (IntKind.wrap .u8 (IntKind.wrap .i64 ((IntKind.wrap .i64 (Int.tdiv n0 256)) + 128)))), []⟩, ⟨.d (.int .i64 n0), []⟩, ⟨.d (.int .i64 (Int.tmod n0 256)), []⟩, ⟨.d (.int .u8 (IntKind.wrap .u8 (Int.tmod n0 256))), []⟩, ⟨.ref [22] 0 0 (List.map (D.int .u8) ([(IntKind.wrap .u8 (IntKind.wrap .i64 ((IntKind.wrap .i64 (Int.tdiv n0 256)) + 128))), (IntKind.wrap .u8 (Int.tmod n0 256))] : List Int)).length 1, [([22], some (.arr (List.map (D.int .u8) ([(IntKind.wrap .u8 (IntKind.wrap .i64 ((IntKind.wrap .i64 (Int.tdiv n0 256)) + 128))), (IntKind.wrap .u8 (Int.tmod n0 256))] : List Int)) 0 false))]⟩] (by kernel_rfl) ?_
    refine RunAt.cut (some 23) .bytesStr [] none [.ref [22] 0 0 (List.map (D.int .u8) ([(IntKind.wrap .u8 (IntKind.wrap .i64 ((IntKind.wrap .i64 (Int.tdiv n0 256)) + 128))), (IntKind.wrap .u8 (Int.tmod n0 256))] : List Int)).length 1] (.d (.str (b2s ([(IntKind.wrap .u8 (IntKind.wrap .i64 ((IntKind.wrap .i64 (Int.tdiv n0 256)) + 128))), (IntKind.wrap .u8 (Int.tmod n0 256))] : List Int)))) [] (by kernel_rfl) (by kernel_rfl) (by kernel_rfl) (cut_bsR (l := ([(IntKind.wrap .u8 (IntKind.wrap .i64 ((IntKind.wrap .i64 (Int.tdiv n0 256)) + 128))), (IntKind.wrap .u8 (Int.tmod n0 256))] : List Int)) (fz := false) (by kernel_rfl) (by kernel_rfl) rfl) ?_
    refine RunAt.chunk 1 [⟨.d (.str (b2s ([(IntKind.wrap .u8 (IntKind.wrap .i64 ((IntKind.wrap .i64 (Int.tdiv n0 256)) + 128))), (IntKind.wrap .u8 (Int.tmod n0 256))] : List Int))), []⟩] (by kernel_rfl) ?_
    refine RunAt.done (by kernel_rfl) ?_
    refine kS_nrm ?_
    refine Runs.ret ?_
    obtain rfl := Option.some.inj h
    exact ⟨Out.ret_ne, (by kernel_rfl)⟩
theorem hansomref18_Index_ok (n_ : Int) (r : (List UInt8)) (h : hansomref18_Index n_ = some r) : Runs L F17.body ⟨tmOf [.d (.int .i64 n_)] 0, updW (fun _ => none) []⟩ (hansomref18_Index_Q n_ r) := by
  unfold hansomref18_Index at h
  refine Runs.seq ?_
  refine Runs.ops ?_
  refine RunAt.chunk 1 [⟨.d (.str ([] : List UInt8)), []⟩] (by kernel_rfl) ?_
  refine RunAt.done (by kernel_rfl) ?_
  refine kS_nrm ?_
  refine Runs.seq ?_
  refine Runs.seq ?_
  refine Runs.ops ?_
  refine RunAt.chunk 3 [⟨.d (.int .i64 n_), []⟩, ⟨.d (.bool (decide (n_ < 0))), []⟩, ⟨.d (.bool (decide (n_ < 0))), []⟩] (by kernel_rfl) ?_
  cases hb_1 : ((decide (n_ < 0)) : Bool) with
  | true =>
    replace h := ite_t hb_1 h
    refine RunAt.chunk 3 [⟨.tup [], []⟩, ⟨.tup [], []⟩, ⟨.d (.bool true), []⟩] (by kernel_rfl) ?_
    refine RunAt.done (by kernel_rfl) ?_
    refine kS_nrm ?_
    refine Runs.cond_t (by kernel_rfl) ?_
    refine Runs.ops ?_
    refine RunAt.chunk 1 [⟨.d (.int .i64 0), []⟩] (by kernel_rfl) ?_
    refine RunAt.done (by kernel_rfl) ?_
    refine kS_nrm ?_
    refine Runs.canon (hansomref18_Index_h8 0) (Canon.nil (by kernel_rfl)) ?_
    exact hansomref18_Index_j8_ok n_ 0 r h
  | false =>
    replace h := ite_f hb_1 h
    refine RunAt.chunk 3 [⟨.d (.int .i64 n_), []⟩, ⟨.d (.bool (decide (n_ > 32767))), []⟩, ⟨.d (.bool (decide (n_ > 32767))), []⟩] (by kernel_rfl) ?_
    refine RunAt.done (by kernel_rfl) ?_
    refine kS_nrm ?_
    cases hb_3 : ((decide (n_ > 32767)) : Bool) with
    | true =>
      replace h := ite_t hb_3 h
      refine Runs.cond_t (by kernel_rfl) ?_
      refine Runs.ops ?_
      refine RunAt.chunk 1 [⟨.d (.int .i64 0), []⟩] (by kernel_rfl) ?_
      refine RunAt.done (by kernel_rfl) ?_
      refine kS_nrm ?_
      refine Runs.canon (hansomref18_Index_h8 0) (Canon.nil (by kernel_rfl)) ?_
      exact hansomref18_Index_j8_ok n_ 0 r h
    | false =>
      replace h := ite_f hb_3 h
      refine Runs.cond_f (by kernel_rfl) ?_
      refine Runs.skip ?_
      refine kS_nrm ?_
      refine Runs.canon (hansomref18_Index_h8 n_) (Canon.nil (by kernel_rfl)) ?_
      exact hansomref18_Index_j8_ok n_ n_ r h
theorem hansomref18_Index_L (n_ : Int) (r : (List UInt8)) (h : hansomref18_Index n_ = some r) : L 17 [.d (.int .i64 n_)] = some (.d (.str r), [.d (.int .i64 n_)]) := by
  obtain ⟨p, ⟨hne, hf⟩, hr⟩ := hansomref18_Index_ok n_ r h
  obtain ⟨k, hk⟩ := run_of (F := F17) (args := [.d (.int .i64 n_)]) (ap := [.d (.int .i64 n_)]) (bx0 := updW (fun _ => none) []) rfl rfl (by kernel_rfl) ⟨p, ⟨hne, hf⟩, hr⟩
  exact lim_run (k := k) rfl hk
def hansomref21_Segment_h10 (s1 : SegDef) (first3 : Int) : St := ⟨tab [(1, .ptr [1] 0 0), (3, .d (.int .i64 first3))], tabB [([1], some (.cells [.d (.int .i64 s1.Align), .d (.int .i64 s1.Combine), .d (.int .u16 s1.Frame), .d (.int .u8 s1.Offset), .d (.int .i64 s1.Len), .d (.int .i64 s1.Name), .d (.int .i64 s1.Class), .d (.int .i64 s1.Overlay)] 0))]⟩
def hansomref21_Segment_h18 (s1 : SegDef) (b4 : (List UInt8)) : St := ⟨tab [(1, .ptr [1] 0 0), (4, .d (.str b4))], tabB [([1], some (.cells [.d (.int .i64 s1.Align), .d (.int .i64 s1.Combine), .d (.int .u16 s1.Frame), .d (.int .u8 s1.Offset), .d (.int .i64 s1.Len), .d (.int .i64 s1.Name), .d (.int .i64 s1.Class), .d (.int .i64 s1.Overlay)] 0))]⟩
def hansomref21_Segment_Q (s_ : SegDef) (r : (List UInt8)) (p : Out × St) : Prop := (∀ i, p.1 ≠ .exit i) ∧ finF F62 [.d (SegDef.d s_)] p.2 = some (.d (.str r), [.d (SegDef.d s_)])
theorem hansomref21_Segment_j18_ok (s_ : SegDef) (s1 : SegDef) (b4 : (List UInt8)) (r : (List UInt8)) (h : hansomref21_Segment_j18 s1 b4 = some r) : Runs L F62b18 (hansomref21_Segment_h18 s1 b4) (hansomref21_Segment_Q s_ r) := by
  unfold hansomref21_Segment_j18 at h
  refine Runs.seq ?_
  refine Runs.ops ?_
  refine RunAt.chunk 5 [⟨.d (.str b4), []⟩, ⟨.ptr [1] 0 4, []⟩, ⟨.d (.int .i64 s1.Len), []⟩, ⟨.d (.int .i64 (Int.tmod s1.Len 65536)), []⟩, ⟨.d (.int .u64 (IntKind.wrap .u64 (Int.tmod s1.Len 65536))), []⟩] (by kernel_rfl) ?_
  obtain ⟨r_2, hr_2, h⟩ := bind_s h
  have hc_2 := hansomref18_Bytes_L (IntKind.wrap .u64 (Int.tmod s1.Len 65536)) 2 r_2 hr_2
  refine RunAt.cut (some 40) (.callf 21) [] none [.d (.int .u64 (IntKind.wrap .u64 (Int.tmod s1.Len 65536))), .d (.int .i64 2)] (.d (.str r_2)) [] (by kernel_rfl) (by kernel_rfl) (by kernel_rfl) (cut_call (call_of (ws := []) (us := []) (by kernel_rfl) (by kernel_rfl) hc_2 (by kernel_rfl) (by kernel_rfl))) ?_
  obtain ⟨z_3, hz_3, h⟩ := bind_s h
  refine RunAt.cut (some 41) (.bin .add) [] none [.d (.str b4), .d (.str r_2)] (.d (.str z_3)) [] (by kernel_rfl) (by kernel_rfl) (by kernel_rfl) (cut_cat hz_3) ?_
  refine RunAt.chunk 1 [⟨.d (.str z_3), []⟩] (by kernel_rfl) ?_
  refine RunAt.done (by kernel_rfl) ?_
  refine kS_nrm ?_
  refine Runs.seq ?_
  refine Runs.ops ?_
  refine RunAt.chunk 3 [⟨.d (.str z_3), []⟩, ⟨.ptr [1] 0 5, []⟩, ⟨.d (.int .i64 s1.Name), []⟩] (by kernel_rfl) ?_
  obtain ⟨r_3, hr_3, h⟩ := bind_s h
  have hc_3 := hansomref18_Index_L s1.Name r_3 hr_3
  refine RunAt.cut (some 45) (.callf 17) [] (some []) [.d (.int .i64 s1.Name)] (.d (.str r_3)) [] (by kernel_rfl) (by kernel_rfl) (by kernel_rfl) (cut_call (call_of (ws := []) (us := []) (by kernel_rfl) (by kernel_rfl) hc_3 (by kernel_rfl) (by kernel_rfl))) ?_
  obtain ⟨z_4, hz_4, h⟩ := bind_s h
  refine RunAt.cut (some 46) (.bin .add) [] none [.d (.str z_3), .d (.str r_3)] (.d (.str z_4)) [] (by kernel_rfl) (by kernel_rfl) (by kernel_rfl) (cut_cat hz_4) ?_
  refine RunAt.chunk 2 [⟨.ptr [1] 0 6, []⟩, ⟨.d (.int .i64 s1.Class), []⟩] (by kernel_rfl) ?_
  obtain ⟨r_4, hr_4, h⟩ := bind_s h
  have hc_4 := hansomref18_Index_L s1.Class r_4 hr_4
  refine RunAt.cut (some 49) (.callf 17) [] (some []) [.d (.int .i64 s1.Class)] (.d (.str r_4)) [] (by kernel_rfl) (by kernel_rfl) (by kernel_rfl) (cut_call (call_of (ws := []) (us := []) (by kernel_rfl) (by kernel_rfl) hc_4 (by kernel_rfl) (by kernel_rfl))) ?_
  obtain ⟨z_5, hz_5, h⟩ := bind_s h
  refine RunAt.cut (some 50) (.bin .add) [] none [.d (.str z_4), .d (.str r_4)] (.d (.str z_5)) [] (by kernel_rfl) (by kernel_rfl) (by kernel_rfl) (cut_cat hz_5) ?_
  refine RunAt.chunk 2 [⟨.ptr [1] 0 7, []⟩, ⟨.d (.int .i64 s1.Overlay), []⟩] (by kernel_rfl) ?_
  obtain ⟨r_5, hr_5, h⟩ := bind_s h
  have hc_5 := hansomref18_Index_L s1.Overlay r_5 hr_5
  refine RunAt.cut (some 53) (.callf 17) [] none [.d (.int .i64 s1.Overlay)] (.d (.str r_5)) [] (by kernel_rfl) (by kernel_rfl) (by kernel_rfl) (cut_call (call_of (ws := []) (us := []) (by kernel_rfl) (by kernel_rfl) hc_5 (by kernel_rfl) (by kernel_rfl))) ?_
  obtain ⟨z_6, hz_6, h⟩ := bind_s h
  refine RunAt.cut (some 54) (.bin .add) [] none [.d (.str z_5), .d (.str r_5)] (.d (.str z_6)) [] (by kernel_rfl) (by kernel_rfl) (by kernel_rfl) (cut_cat hz_6) ?_
  refine RunAt.chunk 1 [⟨.d (.str z_6), []⟩] (by kernel_rfl) ?_
  refine RunAt.done (by kernel_rfl) ?_
  refine kS_nrm ?_
  refine Runs.ret ?_
  obtain rfl := Option.some.inj h
  exact ⟨Out.ret_ne, (by kernel_rfl)⟩
theorem hansomref21_Segment_j10_ok (s_ : SegDef) (s1 : SegDef) (first3 : Int) (r : (List UInt8)) (h : hansomref21_Segment_j10 s1 first3 = some r) : Runs L F62b10 (hansomref21_Segment_h10 s1 first3) (hansomref21_Segment_Q s_ r) := by
  unfold hansomref21_Segment_j10 at h
  refine Runs.seq ?_
  refine Runs.ops ?_
  refine RunAt.chunk 3 [⟨.d (.int .i64 first3), []⟩, ⟨.d (.int .u8 (IntKind.wrap .u8 first3)), []⟩, ⟨.ref [19] 0 0 (List.map (D.int .u8) ([(IntKind.wrap .u8 first3)] : List Int)).length 1, [([19], some (.arr (List.map (D.int .u8) ([(IntKind.wrap .u8 first3)] : List Int)) 0 false))]⟩] (by kernel_rfl) ?_
  refine RunAt.cut (some 20) .bytesStr [] none [.ref [19] 0 0 (List.map (D.int .u8) ([(IntKind.wrap .u8 first3)] : List Int)).length 1] (.d (.str (b2s ([(IntKind.wrap .u8 first3)] : List Int)))) [] (by kernel_rfl) (by kernel_rfl) (by kernel_rfl) (cut_bsR (l := ([(IntKind.wrap .u8 first3)] : List Int)) (fz := false) (by kernel_rfl) (by kernel_rfl) rfl) ?_
  refine RunAt.chunk 1 [⟨.d (.str (b2s ([(IntKind.wrap .u8 first3)] : List Int))), []⟩] (by kernel_rfl) ?_
  refine RunAt.done (by kernel_rfl) ?_
  refine kS_nrm ?_
  refine Runs.seq ?_
  refine Runs.seq ?_
  refine Runs.ops ?_
  refine RunAt.chunk 3 [⟨.ptr [1] 0 0, []⟩, ⟨.d (.int .i64 s1.Align), []⟩, ⟨.d (.bool (s1.Align == 0)), []⟩] (by kernel_rfl) ?_
  refine RunAt.done (by kernel_rfl) ?_
  refine kS_nrm ?_
  cases hb_2 : ((s1.Align == 0) : Bool) with
  | true =>
    replace h := ite_t hb_2 h
    refine Runs.cond_t (by kernel_rfl) ?_
    refine Runs.ops ?_
    refine RunAt.chunk 4 [⟨.d (.str (b2s ([(IntKind.wrap .u8 first3)] : List Int))), []⟩, ⟨.ptr [1] 0 2, []⟩, ⟨.d (.int .u16 s1.Frame), []⟩, ⟨.d (.int .u64 (IntKind.wrap .u64 s1.Frame)), []⟩] (by kernel_rfl) ?_
    obtain ⟨r_1, hr_1, h⟩ := bind_s h
    have hc_1 := hansomref18_Bytes_L (IntKind.wrap .u64 s1.Frame) 2 r_1 hr_1
    refine RunAt.cut (some 28) (.callf 21) [[31]] (some []) [.d (.int .u64 (IntKind.wrap .u64 s1.Frame)), .d (.int .i64 2)] (.d (.str r_1)) [] (by kernel_rfl) (by kernel_rfl) (by kernel_rfl) (cut_call (call_of (ws := []) (us := []) (by kernel_rfl) (by kernel_rfl) hc_1 (by kernel_rfl) (by kernel_rfl))) ?_
    refine RunAt.chunk 3 [⟨.ptr [1] 0 3, []⟩, ⟨.d (.int .u8 s1.Offset), []⟩, ⟨.ref [31] 0 0 (List.map (D.int .u8) ([s1.Offset] : List Int)).length 1, [([31], some (.arr (List.map (D.int .u8) ([s1.Offset] : List Int)) 0 false))]⟩] (by kernel_rfl) ?_
    refine RunAt.cut (some 32) .bytesStr [[28]] none [.ref [31] 0 0 (List.map (D.int .u8) ([s1.Offset] : List Int)).length 1] (.d (.str (b2s ([s1.Offset] : List Int)))) [] (by kernel_rfl) (by kernel_rfl) (by kernel_rfl) (cut_bsR (l := ([s1.Offset] : List Int)) (fz := false) (by kernel_rfl) (by kernel_rfl) rfl) ?_
    obtain ⟨z_1, hz_1, h⟩ := bind_s h
    refine RunAt.cut (some 33) (.bin .add) [] none [.d (.str r_1), .d (.str (b2s ([s1.Offset] : List Int)))] (.d (.str z_1)) [] (by kernel_rfl) (by kernel_rfl) (by kernel_rfl) (cut_cat hz_1) ?_
    obtain ⟨z_2, hz_2, h⟩ := bind_s h
    refine RunAt.cut (some 34) (.bin .add) [] none [.d (.str (b2s ([(IntKind.wrap .u8 first3)] : List Int))), .d (.str z_1)] (.d (.str z_2)) [] (by kernel_rfl) (by kernel_rfl) (by kernel_rfl) (cut_cat hz_2) ?_
    refine RunAt.chunk 1 [⟨.d (.str z_2), []⟩] (by kernel_rfl) ?_
    refine RunAt.done (by kernel_rfl) ?_
    refine kS_nrm ?_
    refine Runs.canon (hansomref21_Segment_h18 s1 z_2) (Canon.nil (by kernel_rfl)) ?_
    exact hansomref21_Segment_j18_ok s_ s1 z_2 r h
  | false =>
    replace h := ite_f hb_2 h
    refine Runs.cond_f (by kernel_rfl) ?_
    refine Runs.skip ?_
    refine kS_nrm ?_
    refine Runs.canon (hansomref21_Segment_h18 s1 (b2s ([(IntKind.wrap .u8 first3)] : List Int))) (Canon.nil (by kernel_rfl)) ?_
    exact hansomref21_Segment_j18_ok s_ s1 (b2s ([(IntKind.wrap .u8 first3)] : List Int)) r h
theorem hansomref21_Segment_ok (s_ : SegDef) (r : (List UInt8)) (h : hansomref21_Segment s_ = some r) : Runs L F62.body ⟨tmOf [.d (SegDef.d s_)] 0, updW (fun _ => none) []⟩ (hansomref21_Segment_Q s_ r) := by
  unfold hansomref21_Segment at h
  refine Runs.seq ?_
  refine Runs.ops ?_
  refine RunAt.chunk 2 [⟨.ptr [1] 0 0, [([1], some (.cells [.d (.int .i64 s_.Align), .d (.int .i64 s_.Combine), .d (.int .u16 s_.Frame), .d (.int .u8 s_.Offset), .d (.int .i64 s_.Len), .d (.int .i64 s_.Name), .d (.int .i64 s_.Class), .d (.int .i64 s_.Overlay)] 0))]⟩, ⟨.d (.str ([] : List UInt8)), []⟩] (by kernel_rfl) ?_
  refine RunAt.done (by kernel_rfl) ?_
  refine kS_nrm ?_
  refine Runs.seq ?_
  refine Runs.ops ?_
  refine RunAt.chunk 8 [⟨.ptr [1] 0 0, []⟩, ⟨.d (.int .i64 s_.Align), []⟩, ⟨.d (.int .i64 (IntKind.wrap .i64 (32 * s_.Align))), []⟩, ⟨.ptr [1] 0 1, []⟩, ⟨.d (.int .i64 s_.Combine), []⟩, ⟨.d (.int .i64 (IntKind.wrap .i64 (4 * s_.Combine))), []⟩, ⟨.d (.int .i64 (IntKind.wrap .i64 ((IntKind.wrap .i64 (32 * s_.Align)) + (IntKind.wrap .i64 (4 * s_.Combine))))), []⟩, ⟨.d (.int .i64 (IntKind.wrap .i64 ((IntKind.wrap .i64 (32 * s_.Align)) + (IntKind.wrap .i64 (4 * s_.Combine))))), []⟩] (by kernel_rfl) ?_
  refine RunAt.done (by kernel_rfl) ?_
  refine kS_nrm ?_
  refine Runs.seq ?_
  refine Runs.seq ?_
  refine Runs.ops ?_
  refine RunAt.chunk 3 [⟨.ptr [1] 0 4, []⟩, ⟨.d (.int .i64 s_.Len), []⟩, ⟨.d (.bool (s_.Len == 65536)), []⟩] (by kernel_rfl) ?_
  refine RunAt.done (by kernel_rfl) ?_
  refine kS_nrm ?_
  cases hb_1 : ((s_.Len == 65536) : Bool) with
  | true =>
    replace h := ite_t hb_1 h
    refine Runs.cond_t (by kernel_rfl) ?_
    refine Runs.ops ?_
    refine RunAt.chunk 3 [⟨.d (.int .i64 (IntKind.wrap .i64 ((IntKind.wrap .i64 (32 * s_.Align)) + (IntKind.wrap .i64 (4 * s_.Combine))))), []⟩, ⟨.d (.int .i64 (IntKind.wrap .i64 ((IntKind.wrap .i64 ((IntKind.wrap .i64 (32 * s_.Align)) + (IntKind.wrap .i64 (4 * s_.Combine)))) + 2))), []⟩, ⟨.d (.int .i64 (IntKind.wrap .i64 ((IntKind.wrap .i64 ((IntKind.wrap .i64 (32 * s_.Align)) + (IntKind.wrap .i64 (4 * s_.Combine)))) + 2))), []⟩] (by kernel_rfl) ?_
    refine RunAt.done (by kernel_rfl) ?_
    refine kS_nrm ?_
    refine Runs.canon (hansomref21_Segment_h10 s_ (IntKind.wrap .i64 ((IntKind.wrap .i64 ((IntKind.wrap .i64 (32 * s_.Align)) + (IntKind.wrap .i64 (4 * s_.Combine)))) + 2))) (Canon.nil (by kernel_rfl)) ?_
    exact hansomref21_Segment_j10_ok s_ s_ (IntKind.wrap .i64 ((IntKind.wrap .i64 ((IntKind.wrap .i64 (32 * s_.Align)) + (IntKind.wrap .i64 (4 * s_.Combine)))) + 2)) r h
  | false =>
    replace h := ite_f hb_1 h
    refine Runs.cond_f (by kernel_rfl) ?_
    refine Runs.skip ?_
    refine kS_nrm ?_
    refine Runs.canon (hansomref21_Segment_h10 s_ (IntKind.wrap .i64 ((IntKind.wrap .i64 (32 * s_.Align)) + (IntKind.wrap .i64 (4 * s_.Combine))))) (Canon.nil (by kernel_rfl)) ?_
    exact hansomref21_Segment_j10_ok s_ s_ (IntKind.wrap .i64 ((IntKind.wrap .i64 (32 * s_.Align)) + (IntKind.wrap .i64 (4 * s_.Combine)))) r h
theorem hansomref21_Segment_L (s_ : SegDef) (r : (List UInt8)) (h : hansomref21_Segment s_ = some r) : L 62 [.d (SegDef.d s_)] = some (.d (.str r), [.d (SegDef.d s_)]) := by
  obtain ⟨p, ⟨hne, hf⟩, hr⟩ := hansomref21_Segment_ok s_ r h
  obtain ⟨k, hk⟩ := run_of (F := F62) (args := [.d (SegDef.d s_)]) (ap := [.d (SegDef.d s_)]) (bx0 := updW (fun _ => none) []) rfl rfl (by kernel_rfl) ⟨p, ⟨hne, hf⟩, hr⟩
  exact lim_run (k := k) rfl hk
def hansomlaw21_SegsDef_Q (s_ : SegDef) (odd_ : Int) (r : Bool) (p : Out × St) : Prop := (∀ i, p.1 ≠ .exit i) ∧ finF F12 [.d (SegDef.d s_), .d (.int .i64 odd_)] p.2 = some (.d (.bool r), [.d (SegDef.d s_), .d (.int .i64 odd_)])
theorem hansomlaw21_SegsDef_ok (s_ : SegDef) (odd_ : Int) (r : Bool) (h : hansomlaw21_SegsDef s_ odd_ = some r) : Runs L F12.body ⟨tmOf [.d (SegDef.d s_), .d (.int .i64 odd_)] 0, updW (fun _ => none) []⟩ (hansomlaw21_SegsDef_Q s_ odd_ r) := by
  unfold hansomlaw21_SegsDef at h
  refine Runs.seq ?_
  refine Runs.ops ?_
  refine RunAt.chunk 2 [⟨.ptr [2] 0 0, [([2], some (.cells [.d (.int .i64 s_.Align), .d (.int .i64 s_.Combine), .d (.int .u16 s_.Frame), .d (.int .u8 s_.Offset), .d (.int .i64 s_.Len), .d (.int .i64 s_.Name), .d (.int .i64 s_.Class), .d (.int .i64 s_.Overlay)] 0))]⟩, ⟨.d (.bool false), []⟩] (by kernel_rfl) ?_
  refine RunAt.done (by kernel_rfl) ?_
  refine kS_nrm ?_
  refine Runs.seq ?_
  refine Runs.ops ?_
  refine RunAt.chunk 2 [⟨.d (SegDef.d s_), []⟩, ⟨.d (.int .i64 odd_), []⟩] (by kernel_rfl) ?_
  obtain ⟨r_1, hr_1, h⟩ := bind_s h
  have hc_1 := hansomlaw21_near_L s_ odd_ r_1 hr_1
  refine RunAt.cut (some 12) (.callf 56) [] none [.d (SegDef.d s_), .d (.int .i64 odd_)] (.d (SegDef.d r_1)) [] (by kernel_rfl) (by kernel_rfl) (by kernel_rfl) (cut_call (call_of (ws := []) (us := []) (by kernel_rfl) (by kernel_rfl) hc_1 (by kernel_rfl) (by kernel_rfl))) ?_
  refine RunAt.chunk 2 [⟨.ptr [5] 0 0, [([5], some (.cells [.d (.int .i64 0), .d (.int .i64 0), .d (.int .u16 0), .d (.int .u8 0), .d (.int .i64 0), .d (.int .i64 0), .d (.int .i64 0), .d (.int .i64 0)] 0))]⟩, ⟨.tup [], [([5], some (.cells [.d (.int .i64 r_1.Align), .d (.int .i64 r_1.Combine), .d (.int .u16 r_1.Frame), .d (.int .u8 r_1.Offset), .d (.int .i64 r_1.Len), .d (.int .i64 r_1.Name), .d (.int .i64 r_1.Class), .d (.int .i64 r_1.Overlay)] 0))]⟩] (by kernel_rfl) ?_
  refine RunAt.done (by kernel_rfl) ?_
  refine kS_nrm ?_
  refine Runs.seq ?_
  refine Runs.ops ?_
  refine RunAt.chunk 1 [⟨.d (SegDef.d r_1), []⟩] (by kernel_rfl) ?_
  obtain ⟨r_2, hr_2, h⟩ := bind_s h
  have hc_2 := segs_Segment_L r_1 r_2 hr_2
  refine RunAt.cut (some 15) (.callf 57) [] none [.d (SegDef.d r_1)] (.tup [.d (Record.d r_2.1), .d (.bool r_2.2)]) [] (by kernel_rfl) (by kernel_rfl) (by kernel_rfl) (cut_call (call_of (ws := []) (us := []) (by kernel_rfl) (by kernel_rfl) hc_2 (by kernel_rfl) (by kernel_rfl))) ?_
  refine RunAt.chunk 6 [⟨.tup [.d (Record.d r_2.1), .d (.bool r_2.2)], []⟩, ⟨.d (Record.d r_2.1), []⟩, ⟨.d (.bool r_2.2), []⟩, ⟨.ptr [6] 0 0, [([6], some (.cells [.d (.int .u8 0), .nils] 0))]⟩, ⟨.tup [], [([6], some (.cells [.d (.int .u8 r_2.1.Kind), .d (.sl (List.map (D.int .u8) r_2.1.Body))] 0))]⟩, ⟨.d (.bool r_2.2), []⟩] (by kernel_rfl) ?_
  refine RunAt.done (by kernel_rfl) ?_
  refine kS_nrm ?_
  refine Runs.seq ?_
  refine Runs.seq ?_
  refine Runs.ops ?_
  obtain ⟨r_3, hr_3, h⟩ := bind_s h
  have hc_3 := hansomlaw21_awake_L r_3 hr_3
  refine RunAt.cut (some 18) (.callf 58) [] none [] (.d (.bool r_3)) [] (by kernel_rfl) (by kernel_rfl) (by kernel_rfl) (cut_call (call_of (ws := []) (us := []) (by kernel_rfl) (by kernel_rfl) hc_3 (by kernel_rfl) (by kernel_rfl))) ?_
  refine RunAt.chunk 2 [⟨.d (.bool (!r_3)), []⟩, ⟨.d (.bool (!r_3)), []⟩] (by kernel_rfl) ?_
  cases hb_1 : ((!r_3) : Bool) with
  | true =>
    replace h := ite_t hb_1 h
    refine RunAt.chunk 12 [⟨.tup [], []⟩, ⟨.tup [], []⟩, ⟨.tup [], []⟩, ⟨.tup [], []⟩, ⟨.tup [], []⟩, ⟨.d (.bool true), []⟩, ⟨.d (.bool true), []⟩, ⟨.tup [], []⟩, ⟨.tup [], []⟩, ⟨.tup [], []⟩, ⟨.tup [], []⟩, ⟨.d (.bool true), []⟩] (by kernel_rfl) ?_
    refine RunAt.done (by kernel_rfl) ?_
    refine kS_nrm ?_
    refine Runs.cond_t (by kernel_rfl) ?_
    refine Runs.seq ?_
    refine Runs.ops ?_
    refine RunAt.chunk 1 [⟨.d (.bool false), []⟩] (by kernel_rfl) ?_
    refine RunAt.done (by kernel_rfl) ?_
    refine kS_nrm ?_
    refine Runs.ret ?_
    refine kS_ret ?_
    obtain rfl := Option.some.inj h
    exact ⟨Out.ret_ne, (by kernel_rfl)⟩
  | false =>
    replace h := ite_f hb_1 h
    refine RunAt.chunk 1 [⟨.d (SegDef.d r_1), []⟩] (by kernel_rfl) ?_
    obtain ⟨r_4, hr_4, h⟩ := bind_s h
    have hc_4 := segs_May_L r_1 r_4 hr_4
    refine RunAt.cut (some 22) (.callf 59) [] (some []) [.d (SegDef.d r_1)] (.d (.bool r_4)) [] (by kernel_rfl) (by kernel_rfl) (by kernel_rfl) (cut_call (call_of (ws := []) (us := []) (by kernel_rfl) (by kernel_rfl) hc_4 (by kernel_rfl) (by kernel_rfl))) ?_
    refine RunAt.chunk 1 [⟨.d (SegDef.d r_1), []⟩] (by kernel_rfl) ?_
    obtain ⟨r_5, hr_5, h⟩ := bind_s h
    have hc_5 := hansomref21_May_L r_1 r_5 hr_5
    refine RunAt.cut (some 24) (.callf 60) [] none [.d (SegDef.d r_1)] (.d (.bool r_5)) [] (by kernel_rfl) (by kernel_rfl) (by kernel_rfl) (cut_call (call_of (ws := []) (us := []) (by kernel_rfl) (by kernel_rfl) hc_5 (by kernel_rfl) (by kernel_rfl))) ?_
    refine RunAt.chunk 3 [⟨.d (.bool (r_4 != r_5)), []⟩, ⟨.d (.bool (r_4 != r_5)), []⟩, ⟨.d (.bool (r_4 != r_5)), []⟩] (by kernel_rfl) ?_
    cases hb_2 : ((r_4 != r_5) : Bool) with
    | true =>
      replace h := ite_t hb_2 h
      refine RunAt.chunk 5 [⟨.tup [], []⟩, ⟨.tup [], []⟩, ⟨.tup [], []⟩, ⟨.tup [], []⟩, ⟨.d (.bool true), []⟩] (by kernel_rfl) ?_
      refine RunAt.done (by kernel_rfl) ?_
      refine kS_nrm ?_
      refine Runs.cond_t (by kernel_rfl) ?_
      refine Runs.seq ?_
      refine Runs.ops ?_
      refine RunAt.chunk 1 [⟨.d (.bool false), []⟩] (by kernel_rfl) ?_
      refine RunAt.done (by kernel_rfl) ?_
      refine kS_nrm ?_
      refine Runs.ret ?_
      refine kS_ret ?_
      obtain rfl := Option.some.inj h
      exact ⟨Out.ret_ne, (by kernel_rfl)⟩
    | false =>
      replace h := ite_f hb_2 h
      refine RunAt.chunk 2 [⟨.d (.bool r_2.2), []⟩, ⟨.d (SegDef.d r_1), []⟩] (by kernel_rfl) ?_
      obtain ⟨r_6, hr_6, h⟩ := bind_s h
      have hc_6 := hansomref21_May_L r_1 r_6 hr_6
      refine RunAt.cut (some 30) (.callf 60) [] none [.d (SegDef.d r_1)] (.d (.bool r_6)) [] (by kernel_rfl) (by kernel_rfl) (by kernel_rfl) (cut_call (call_of (ws := []) (us := []) (by kernel_rfl) (by kernel_rfl) hc_6 (by kernel_rfl) (by kernel_rfl))) ?_
      refine RunAt.chunk 2 [⟨.d (.bool (r_2.2 != r_6)), []⟩, ⟨.d (.bool (r_2.2 != r_6)), []⟩] (by kernel_rfl) ?_
      refine RunAt.done (by kernel_rfl) ?_
      refine kS_nrm ?_
      cases hb_3 : ((r_2.2 != r_6) : Bool) with
      | true =>
        replace h := ite_t hb_3 h
        refine Runs.cond_t (by kernel_rfl) ?_
        refine Runs.seq ?_
        refine Runs.ops ?_
        refine RunAt.chunk 1 [⟨.d (.bool false), []⟩] (by kernel_rfl) ?_
        refine RunAt.done (by kernel_rfl) ?_
        refine kS_nrm ?_
        refine Runs.ret ?_
        refine kS_ret ?_
        obtain rfl := Option.some.inj h
        exact ⟨Out.ret_ne, (by kernel_rfl)⟩
      | false =>
        replace h := ite_f hb_3 h
        refine Runs.cond_f (by kernel_rfl) ?_
        refine Runs.skip ?_
        refine kS_nrm ?_
        refine Runs.seq ?_
        refine Runs.seq ?_
        refine Runs.ops ?_
        refine RunAt.chunk 2 [⟨.d (.bool r_2.2), []⟩, ⟨.d (.bool (!r_2.2)), []⟩] (by kernel_rfl) ?_
        refine RunAt.done (by kernel_rfl) ?_
        refine kS_nrm ?_
        cases hb_4 : ((!r_2.2) : Bool) with
        | true =>
          replace h := ite_t hb_4 h
          refine Runs.cond_t (by kernel_rfl) ?_
          refine Runs.seq ?_
          refine Runs.ops ?_
          refine RunAt.chunk 2 [⟨.ptr [6] 0 1, []⟩, ⟨.d (.sl (List.map (D.int .u8) r_2.1.Body)), []⟩] (by kernel_rfl) ?_
          refine RunAt.cut (some 37) .lenL [] none [.d (.sl (List.map (D.int .u8) r_2.1.Body))] (.d (.int .i64 (r_2.1.Body.length : Int))) [] (by kernel_rfl) (by kernel_rfl) (by kernel_rfl) (cut_len _) ?_
          refine RunAt.chunk 2 [⟨.d (.bool ((r_2.1.Body.length : Int) == 0)), []⟩, ⟨.d (.bool ((r_2.1.Body.length : Int) == 0)), []⟩] (by kernel_rfl) ?_
          refine RunAt.done (by kernel_rfl) ?_
          refine kS_nrm ?_
          refine Runs.ret ?_
          refine kS_ret ?_
          obtain rfl := Option.some.inj h
          exact ⟨Out.ret_ne, (by kernel_rfl)⟩
        | false =>
          replace h := ite_f hb_4 h
          refine Runs.cond_f (by kernel_rfl) ?_
          refine Runs.skip ?_
          refine kS_nrm ?_
          refine Runs.seq ?_
          refine Runs.ops ?_
          refine RunAt.chunk 2 [⟨.ptr [6] 0 1, []⟩, ⟨.d (.sl (List.map (D.int .u8) r_2.1.Body)), []⟩] (by kernel_rfl) ?_
          obtain ⟨r_7, hr_7, h⟩ := bind_s h
          have hc_7 := segs_Def_L r_2.1.Body r_7 hr_7
          refine RunAt.cut (some 42) (.callf 61) [] none [.d (.sl (List.map (D.int .u8) r_2.1.Body))] (.tup [.d (SegDef.d r_7.1), .d (.int .i64 r_7.2)]) [] (by kernel_rfl) (by kernel_rfl) (by kernel_rfl) (cut_call (call_of (ws := []) (us := []) (by kernel_rfl) (by kernel_rfl) hc_7 (by kernel_rfl) (by kernel_rfl))) ?_
          refine RunAt.chunk 6 [⟨.tup [.d (SegDef.d r_7.1), .d (.int .i64 r_7.2)], []⟩, ⟨.d (SegDef.d r_7.1), []⟩, ⟨.d (.int .i64 r_7.2), []⟩, ⟨.ptr [8] 0 0, [([8], some (.cells [.d (.int .i64 0), .d (.int .i64 0), .d (.int .u16 0), .d (.int .u8 0), .d (.int .i64 0), .d (.int .i64 0), .d (.int .i64 0), .d (.int .i64 0)] 0))]⟩, ⟨.tup [], [([8], some (.cells [.d (.int .i64 r_7.1.Align), .d (.int .i64 r_7.1.Combine), .d (.int .u16 r_7.1.Frame), .d (.int .u8 r_7.1.Offset), .d (.int .i64 r_7.1.Len), .d (.int .i64 r_7.1.Name), .d (.int .i64 r_7.1.Class), .d (.int .i64 r_7.1.Overlay)] 0))]⟩, ⟨.d (.int .i64 r_7.2), []⟩] (by kernel_rfl) ?_
          refine RunAt.done (by kernel_rfl) ?_
          refine kS_nrm ?_
          refine Runs.seq ?_
          refine Runs.ops ?_
          refine RunAt.chunk 2 [⟨.ptr [6] 0 1, []⟩, ⟨.d (.sl (List.map (D.int .u8) r_2.1.Body)), []⟩] (by kernel_rfl) ?_
          refine RunAt.cut (some 47) .bytesStr [[49]] none [.d (.sl (List.map (D.int .u8) r_2.1.Body))] (.d (.str (b2s r_2.1.Body))) [] (by kernel_rfl) (by kernel_rfl) (by kernel_rfl) (cut_bs _) ?_
          refine RunAt.chunk 1 [⟨.d (SegDef.d r_1), []⟩] (by kernel_rfl) ?_
          obtain ⟨r_8, hr_8, h⟩ := bind_s h
          have hc_8 := hansomref21_Segment_L r_1 r_8 hr_8
          refine RunAt.cut (some 49) (.callf 62) [] (some []) [.d (SegDef.d r_1)] (.d (.str r_8)) [] (by kernel_rfl) (by kernel_rfl) (by kernel_rfl) (cut_call (call_of (ws := []) (us := []) (by kernel_rfl) (by kernel_rfl) hc_8 (by kernel_rfl) (by kernel_rfl))) ?_
          refine RunAt.chunk 2 [⟨.d (.bool ((b2s r_2.1.Body) == r_8)), []⟩, ⟨.d (.bool ((b2s r_2.1.Body) == r_8)), []⟩] (by kernel_rfl) ?_
          cases hb_5 : (((b2s r_2.1.Body) == r_8) : Bool) with
          | true =>
            replace h := ite_t hb_5 h
            refine RunAt.chunk 5 [⟨.ptr [6] 0 0, []⟩, ⟨.d (.int .u8 r_2.1.Kind), []⟩, ⟨.d (.bool (r_2.1.Kind == 152)), []⟩, ⟨.d (.bool (r_2.1.Kind == 152)), []⟩, ⟨.d (.bool (r_2.1.Kind == 152)), []⟩] (by kernel_rfl) ?_
            cases hb_6 : ((r_2.1.Kind == 152) : Bool) with
            | true =>
              replace h := ite_t hb_6 h
              refine RunAt.chunk 4 [⟨.d (.int .i64 r_7.2), []⟩, ⟨.d (.bool (r_7.2 == 0)), []⟩, ⟨.d (.bool (r_7.2 == 0)), []⟩, ⟨.d (.bool (r_7.2 == 0)), []⟩] (by kernel_rfl) ?_
              cases hb_7 : ((r_7.2 == 0) : Bool) with
              | true =>
                replace h := ite_t hb_7 h
                refine RunAt.chunk 5 [⟨.d (SegDef.d r_7.1), []⟩, ⟨.d (SegDef.d r_1), []⟩, ⟨.d (.bool (r_7.1.Align == r_1.Align && (r_7.1.Combine == r_1.Combine && (r_7.1.Frame == r_1.Frame && (r_7.1.Offset == r_1.Offset && (r_7.1.Len == r_1.Len && (r_7.1.Name == r_1.Name && (r_7.1.Class == r_1.Class && (r_7.1.Overlay == r_1.Overlay && true))))))))), []⟩, ⟨.d (.bool (r_7.1.Align == r_1.Align && (r_7.1.Combine == r_1.Combine && (r_7.1.Frame == r_1.Frame && (r_7.1.Offset == r_1.Offset && (r_7.1.Len == r_1.Len && (r_7.1.Name == r_1.Name && (r_7.1.Class == r_1.Class && (r_7.1.Overlay == r_1.Overlay && true))))))))), []⟩, ⟨.d (.bool (r_7.1.Align == r_1.Align && (r_7.1.Combine == r_1.Combine && (r_7.1.Frame == r_1.Frame && (r_7.1.Offset == r_1.Offset && (r_7.1.Len == r_1.Len && (r_7.1.Name == r_1.Name && (r_7.1.Class == r_1.Class && (r_7.1.Overlay == r_1.Overlay && true))))))))), []⟩] (by kernel_rfl) ?_
                refine RunAt.done (by kernel_rfl) ?_
                refine kS_nrm ?_
                refine Runs.ret ?_
                obtain rfl := Option.some.inj h
                exact ⟨Out.ret_ne, (by kernel_rfl)⟩
              | false =>
                replace h := ite_f hb_7 h
                refine RunAt.chunk 5 [⟨.tup [], []⟩, ⟨.tup [], []⟩, ⟨.tup [], []⟩, ⟨.d (.bool false), []⟩, ⟨.d (.bool false), []⟩] (by kernel_rfl) ?_
                refine RunAt.done (by kernel_rfl) ?_
                refine kS_nrm ?_
                refine Runs.ret ?_
                obtain rfl := Option.some.inj h
                exact ⟨Out.ret_ne, (by kernel_rfl)⟩
            | false =>
              replace h := ite_f hb_6 h
              refine RunAt.chunk 9 [⟨.tup [], []⟩, ⟨.tup [], []⟩, ⟨.d (.bool false), []⟩, ⟨.d (.bool false), []⟩, ⟨.tup [], []⟩, ⟨.tup [], []⟩, ⟨.tup [], []⟩, ⟨.d (.bool false), []⟩, ⟨.d (.bool false), []⟩] (by kernel_rfl) ?_
              refine RunAt.done (by kernel_rfl) ?_
              refine kS_nrm ?_
              refine Runs.ret ?_
              obtain rfl := Option.some.inj h
              exact ⟨Out.ret_ne, (by kernel_rfl)⟩
          | false =>
            replace h := ite_f hb_5 h
            refine RunAt.chunk 14 [⟨.tup [], []⟩, ⟨.tup [], []⟩, ⟨.tup [], []⟩, ⟨.d (.bool false), []⟩, ⟨.d (.bool false), []⟩, ⟨.tup [], []⟩, ⟨.tup [], []⟩, ⟨.d (.bool false), []⟩, ⟨.d (.bool false), []⟩, ⟨.tup [], []⟩, ⟨.tup [], []⟩, ⟨.tup [], []⟩, ⟨.d (.bool false), []⟩, ⟨.d (.bool false), []⟩] (by kernel_rfl) ?_
            refine RunAt.done (by kernel_rfl) ?_
            refine kS_nrm ?_
            refine Runs.ret ?_
            obtain rfl := Option.some.inj h
            exact ⟨Out.ret_ne, (by kernel_rfl)⟩
theorem hansomlaw21_SegsDef_L (s_ : SegDef) (odd_ : Int) (r : Bool) (h : hansomlaw21_SegsDef s_ odd_ = some r) : L 12 [.d (SegDef.d s_), .d (.int .i64 odd_)] = some (.d (.bool r), [.d (SegDef.d s_), .d (.int .i64 odd_)]) := by
  obtain ⟨p, ⟨hne, hf⟩, hr⟩ := hansomlaw21_SegsDef_ok s_ odd_ r h
  obtain ⟨k, hk⟩ := run_of (F := F12) (args := [.d (SegDef.d s_), .d (.int .i64 odd_)]) (ap := [.d (SegDef.d s_), .d (.int .i64 odd_)]) (bx0 := updW (fun _ => none) []) rfl rfl (by kernel_rfl) ⟨p, ⟨hne, hf⟩, hr⟩
  exact lim_run (k := k) rfl hk
def hansomlaw21_SegsAny_h16 (y8 : (List Int)) : St := ⟨tab [(8, .d (.sl (List.map (D.int .u8) y8)))], tabB []⟩
def hansomlaw21_SegsAny_Q (s_ : SegDef) (at_ : Int) (b_ : (List Int)) (r : Bool) (p : Out × St) : Prop := (∀ i, p.1 ≠ .exit i) ∧ finF F13 [.d (SegDef.d s_), .d (.int .i64 at_), .d (.sl (List.map (D.int .u8) b_))] p.2 = some (.d (.bool r), [.d (SegDef.d s_), .d (.int .i64 at_), .d (.sl (List.map (D.int .u8) b_))])
theorem hansomlaw21_SegsAny_j16_ok (s_ : SegDef) (at_ : Int) (b_ : (List Int)) (y8 : (List Int)) (r : Bool) (h : hansomlaw21_SegsAny_j16 y8 = some r) : Runs L F13b16 (hansomlaw21_SegsAny_h16 y8) (hansomlaw21_SegsAny_Q s_ at_ b_ r) := by
  unfold hansomlaw21_SegsAny_j16 at h
  refine Runs.seq ?_
  refine Runs.ops ?_
  refine RunAt.chunk 1 [⟨.d (.sl (List.map (D.int .u8) y8)), []⟩] (by kernel_rfl) ?_
  obtain ⟨r_3, hr_3, h⟩ := bind_s h
  have hc_3 := segs_Def_L y8 r_3 hr_3
  refine RunAt.cut (some 48) (.callf 61) [] none [.d (.sl (List.map (D.int .u8) y8))] (.tup [.d (SegDef.d r_3.1), .d (.int .i64 r_3.2)]) [] (by kernel_rfl) (by kernel_rfl) (by kernel_rfl) (cut_call (call_of (ws := []) (us := []) (by kernel_rfl) (by kernel_rfl) hc_3 (by kernel_rfl) (by kernel_rfl))) ?_
  refine RunAt.chunk 6 [⟨.tup [.d (SegDef.d r_3.1), .d (.int .i64 r_3.2)], []⟩, ⟨.d (SegDef.d r_3.1), []⟩, ⟨.d (.int .i64 r_3.2), []⟩, ⟨.ptr [10] 0 0, [([10], some (.cells [.d (.int .i64 0), .d (.int .i64 0), .d (.int .u16 0), .d (.int .u8 0), .d (.int .i64 0), .d (.int .i64 0), .d (.int .i64 0), .d (.int .i64 0)] 0))]⟩, ⟨.tup [], [([10], some (.cells [.d (.int .i64 r_3.1.Align), .d (.int .i64 r_3.1.Combine), .d (.int .u16 r_3.1.Frame), .d (.int .u8 r_3.1.Offset), .d (.int .i64 r_3.1.Len), .d (.int .i64 r_3.1.Name), .d (.int .i64 r_3.1.Class), .d (.int .i64 r_3.1.Overlay)] 0))]⟩, ⟨.d (.int .i64 r_3.2), []⟩] (by kernel_rfl) ?_
  refine RunAt.done (by kernel_rfl) ?_
  refine kS_nrm ?_
  refine Runs.seq ?_
  refine Runs.seq ?_
  refine Runs.ops ?_
  refine RunAt.chunk 2 [⟨.d (.int .i64 r_3.2), []⟩, ⟨.d (.bool (r_3.2 != 0)), []⟩] (by kernel_rfl) ?_
  refine RunAt.done (by kernel_rfl) ?_
  refine kS_nrm ?_
  cases hb_2 : ((r_3.2 != 0) : Bool) with
  | true =>
    replace h := ite_t hb_2 h
    refine Runs.cond_t (by kernel_rfl) ?_
    refine Runs.seq ?_
    refine Runs.ops ?_
    obtain ⟨r_4, hr_4, h⟩ := bind_s h
    have hc_4 := hansomlaw21_awake_L r_4 hr_4
    refine RunAt.cut (some 53) (.callf 58) [] none [] (.d (.bool r_4)) [] (by kernel_rfl) (by kernel_rfl) (by kernel_rfl) (cut_call (call_of (ws := []) (us := []) (by kernel_rfl) (by kernel_rfl) hc_4 (by kernel_rfl) (by kernel_rfl))) ?_
    refine RunAt.chunk 1 [⟨.d (.bool r_4), []⟩] (by kernel_rfl) ?_
    cases hb_3 : (r_4 : Bool) with
    | true =>
      replace h := ite_t hb_3 h
      refine RunAt.chunk 5 [⟨.d (SegDef.d r_3.1), []⟩, ⟨.d (.agg [.int .i64 0, .int .i64 0, .int .u16 0, .int .u8 0, .int .i64 0, .int .i64 0, .int .i64 0, .int .i64 0]), []⟩, ⟨.d (.bool (r_3.1.Align == 0 && (r_3.1.Combine == 0 && (r_3.1.Frame == 0 && (r_3.1.Offset == 0 && (r_3.1.Len == 0 && (r_3.1.Name == 0 && (r_3.1.Class == 0 && (r_3.1.Overlay == 0 && true))))))))), []⟩, ⟨.d (.bool (r_3.1.Align == 0 && (r_3.1.Combine == 0 && (r_3.1.Frame == 0 && (r_3.1.Offset == 0 && (r_3.1.Len == 0 && (r_3.1.Name == 0 && (r_3.1.Class == 0 && (r_3.1.Overlay == 0 && true))))))))), []⟩, ⟨.d (.bool (r_3.1.Align == 0 && (r_3.1.Combine == 0 && (r_3.1.Frame == 0 && (r_3.1.Offset == 0 && (r_3.1.Len == 0 && (r_3.1.Name == 0 && (r_3.1.Class == 0 && (r_3.1.Overlay == 0 && true))))))))), []⟩] (by kernel_rfl) ?_
      cases hb_4 : ((r_3.1.Align == 0 && (r_3.1.Combine == 0 && (r_3.1.Frame == 0 && (r_3.1.Offset == 0 && (r_3.1.Len == 0 && (r_3.1.Name == 0 && (r_3.1.Class == 0 && (r_3.1.Overlay == 0 && true)))))))) : Bool) with
      | true =>
        replace h := ite_t hb_4 h
        refine RunAt.chunk 3 [⟨.d (.int .i64 r_3.2), []⟩, ⟨.d (.bool (r_3.2 == 2)), []⟩, ⟨.d (.bool (r_3.2 == 2)), []⟩] (by kernel_rfl) ?_
        cases hb_5 : ((r_3.2 == 2) : Bool) with
        | true =>
          replace h := ite_t hb_5 h
          refine RunAt.chunk 5 [⟨.tup [], []⟩, ⟨.tup [], []⟩, ⟨.d (.bool true), []⟩, ⟨.d (.bool true), []⟩, ⟨.d (.bool true), []⟩] (by kernel_rfl) ?_
          refine RunAt.done (by kernel_rfl) ?_
          refine kS_nrm ?_
          refine Runs.ret ?_
          refine kS_ret ?_
          obtain rfl := Option.some.inj h
          exact ⟨Out.ret_ne, (by kernel_rfl)⟩
        | false =>
          replace h := ite_f hb_5 h
          refine RunAt.chunk 5 [⟨.d (.int .i64 r_3.2), []⟩, ⟨.d (.bool (r_3.2 == 3)), []⟩, ⟨.d (.bool (r_3.2 == 3)), []⟩, ⟨.d (.bool (r_3.2 == 3)), []⟩, ⟨.d (.bool (r_3.2 == 3)), []⟩] (by kernel_rfl) ?_
          refine RunAt.done (by kernel_rfl) ?_
          refine kS_nrm ?_
          refine Runs.ret ?_
          refine kS_ret ?_
          obtain rfl := Option.some.inj h
          exact ⟨Out.ret_ne, (by kernel_rfl)⟩
      | false =>
        replace h := ite_f hb_4 h
        refine RunAt.chunk 8 [⟨.tup [], []⟩, ⟨.tup [], []⟩, ⟨.tup [], []⟩, ⟨.tup [], []⟩, ⟨.tup [], []⟩, ⟨.tup [], []⟩, ⟨.d (.bool false), []⟩, ⟨.d (.bool false), []⟩] (by kernel_rfl) ?_
        refine RunAt.done (by kernel_rfl) ?_
        refine kS_nrm ?_
        refine Runs.ret ?_
        refine kS_ret ?_
        obtain rfl := Option.some.inj h
        exact ⟨Out.ret_ne, (by kernel_rfl)⟩
    | false =>
      replace h := ite_f hb_3 h
      refine RunAt.chunk 13 [⟨.tup [], []⟩, ⟨.tup [], []⟩, ⟨.tup [], []⟩, ⟨.d (.bool false), []⟩, ⟨.d (.bool false), []⟩, ⟨.tup [], []⟩, ⟨.tup [], []⟩, ⟨.tup [], []⟩, ⟨.tup [], []⟩, ⟨.tup [], []⟩, ⟨.tup [], []⟩, ⟨.d (.bool false), []⟩, ⟨.d (.bool false), []⟩] (by kernel_rfl) ?_
      refine RunAt.done (by kernel_rfl) ?_
      refine kS_nrm ?_
      refine Runs.ret ?_
      refine kS_ret ?_
      obtain rfl := Option.some.inj h
      exact ⟨Out.ret_ne, (by kernel_rfl)⟩
  | false =>
    replace h := ite_f hb_2 h
    refine Runs.cond_f (by kernel_rfl) ?_
    refine Runs.skip ?_
    refine kS_nrm ?_
    refine Runs.seq ?_
    refine Runs.ops ?_
    refine RunAt.chunk 1 [⟨.d (SegDef.d r_3.1), []⟩] (by kernel_rfl) ?_
    obtain ⟨r_5, hr_5, h⟩ := bind_s h
    have hc_5 := segs_Segment_L r_3.1 r_5 hr_5
    refine RunAt.cut (some 69) (.callf 57) [] none [.d (SegDef.d r_3.1)] (.tup [.d (Record.d r_5.1), .d (.bool r_5.2)]) [] (by kernel_rfl) (by kernel_rfl) (by kernel_rfl) (cut_call (call_of (ws := []) (us := []) (by kernel_rfl) (by kernel_rfl) hc_5 (by kernel_rfl) (by kernel_rfl))) ?_
    refine RunAt.chunk 6 [⟨.tup [.d (Record.d r_5.1), .d (.bool r_5.2)], []⟩, ⟨.d (Record.d r_5.1), []⟩, ⟨.d (.bool r_5.2), []⟩, ⟨.ptr [12] 0 0, [([12], some (.cells [.d (.int .u8 0), .nils] 0))]⟩, ⟨.tup [], [([12], some (.cells [.d (.int .u8 r_5.1.Kind), .d (.sl (List.map (D.int .u8) r_5.1.Body))] 0))]⟩, ⟨.d (.bool r_5.2), []⟩] (by kernel_rfl) ?_
    refine RunAt.done (by kernel_rfl) ?_
    refine kS_nrm ?_
    refine Runs.seq ?_
    refine Runs.ops ?_
    refine RunAt.chunk 2 [⟨.ptr [12] 0 1, []⟩, ⟨.d (.sl (List.map (D.int .u8) r_5.1.Body)), []⟩] (by kernel_rfl) ?_
    obtain ⟨r_6, hr_6, h⟩ := bind_s h
    have hc_6 := segs_Def_L r_5.1.Body r_6 hr_6
    refine RunAt.cut (some 75) (.callf 61) [] none [.d (.sl (List.map (D.int .u8) r_5.1.Body))] (.tup [.d (SegDef.d r_6.1), .d (.int .i64 r_6.2)]) [] (by kernel_rfl) (by kernel_rfl) (by kernel_rfl) (cut_call (call_of (ws := []) (us := []) (by kernel_rfl) (by kernel_rfl) hc_6 (by kernel_rfl) (by kernel_rfl))) ?_
    refine RunAt.chunk 6 [⟨.tup [.d (SegDef.d r_6.1), .d (.int .i64 r_6.2)], []⟩, ⟨.d (SegDef.d r_6.1), []⟩, ⟨.d (.int .i64 r_6.2), []⟩, ⟨.ptr [14] 0 0, [([14], some (.cells [.d (.int .i64 0), .d (.int .i64 0), .d (.int .u16 0), .d (.int .u8 0), .d (.int .i64 0), .d (.int .i64 0), .d (.int .i64 0), .d (.int .i64 0)] 0))]⟩, ⟨.tup [], [([14], some (.cells [.d (.int .i64 r_6.1.Align), .d (.int .i64 r_6.1.Combine), .d (.int .u16 r_6.1.Frame), .d (.int .u8 r_6.1.Offset), .d (.int .i64 r_6.1.Len), .d (.int .i64 r_6.1.Name), .d (.int .i64 r_6.1.Class), .d (.int .i64 r_6.1.Overlay)] 0))]⟩, ⟨.d (.int .i64 r_6.2), []⟩] (by kernel_rfl) ?_
    refine RunAt.done (by kernel_rfl) ?_
    refine kS_nrm ?_
    refine Runs.seq ?_
    refine Runs.ops ?_
    obtain ⟨r_7, hr_7, h⟩ := bind_s h
    have hc_7 := hansomlaw21_awake_L r_7 hr_7
    refine RunAt.cut (some 78) (.callf 58) [] none [] (.d (.bool r_7)) [] (by kernel_rfl) (by kernel_rfl) (by kernel_rfl) (cut_call (call_of (ws := []) (us := []) (by kernel_rfl) (by kernel_rfl) hc_7 (by kernel_rfl) (by kernel_rfl))) ?_
    refine RunAt.chunk 1 [⟨.d (.bool r_7), []⟩] (by kernel_rfl) ?_
    cases hb_6 : (r_7 : Bool) with
    | true =>
      replace h := ite_t hb_6 h
      refine RunAt.chunk 1 [⟨.d (SegDef.d r_3.1), []⟩] (by kernel_rfl) ?_
      obtain ⟨r_8, hr_8, h⟩ := bind_s h
      have hc_8 := hansomref21_May_L r_3.1 r_8 hr_8
      refine RunAt.cut (some 81) (.callf 60) [] none [.d (SegDef.d r_3.1)] (.d (.bool r_8)) [] (by kernel_rfl) (by kernel_rfl) (by kernel_rfl) (cut_call (call_of (ws := []) (us := []) (by kernel_rfl) (by kernel_rfl) hc_8 (by kernel_rfl) (by kernel_rfl))) ?_
      refine RunAt.chunk 2 [⟨.d (.bool r_8), []⟩, ⟨.d (.bool r_8), []⟩] (by kernel_rfl) ?_
      cases hb_7 : (r_8 : Bool) with
      | true =>
        replace h := ite_t hb_7 h
        refine RunAt.chunk 3 [⟨.d (.bool r_5.2), []⟩, ⟨.d (.bool r_5.2), []⟩, ⟨.d (.bool r_5.2), []⟩] (by kernel_rfl) ?_
        cases hb_8 : (r_5.2 : Bool) with
        | true =>
          replace h := ite_t hb_8 h
          refine RunAt.chunk 4 [⟨.d (.int .i64 r_6.2), []⟩, ⟨.d (.bool (r_6.2 == 0)), []⟩, ⟨.d (.bool (r_6.2 == 0)), []⟩, ⟨.d (.bool (r_6.2 == 0)), []⟩] (by kernel_rfl) ?_
          cases hb_9 : ((r_6.2 == 0) : Bool) with
          | true =>
            replace h := ite_t hb_9 h
            refine RunAt.chunk 5 [⟨.d (SegDef.d r_6.1), []⟩, ⟨.d (SegDef.d r_3.1), []⟩, ⟨.d (.bool (r_6.1.Align == r_3.1.Align && (r_6.1.Combine == r_3.1.Combine && (r_6.1.Frame == r_3.1.Frame && (r_6.1.Offset == r_3.1.Offset && (r_6.1.Len == r_3.1.Len && (r_6.1.Name == r_3.1.Name && (r_6.1.Class == r_3.1.Class && (r_6.1.Overlay == r_3.1.Overlay && true))))))))), []⟩, ⟨.d (.bool (r_6.1.Align == r_3.1.Align && (r_6.1.Combine == r_3.1.Combine && (r_6.1.Frame == r_3.1.Frame && (r_6.1.Offset == r_3.1.Offset && (r_6.1.Len == r_3.1.Len && (r_6.1.Name == r_3.1.Name && (r_6.1.Class == r_3.1.Class && (r_6.1.Overlay == r_3.1.Overlay && true))))))))), []⟩, ⟨.d (.bool (r_6.1.Align == r_3.1.Align && (r_6.1.Combine == r_3.1.Combine && (r_6.1.Frame == r_3.1.Frame && (r_6.1.Offset == r_3.1.Offset && (r_6.1.Len == r_3.1.Len && (r_6.1.Name == r_3.1.Name && (r_6.1.Class == r_3.1.Class && (r_6.1.Overlay == r_3.1.Overlay && true))))))))), []⟩] (by kernel_rfl) ?_
            cases hb_10 : ((r_6.1.Align == r_3.1.Align && (r_6.1.Combine == r_3.1.Combine && (r_6.1.Frame == r_3.1.Frame && (r_6.1.Offset == r_3.1.Offset && (r_6.1.Len == r_3.1.Len && (r_6.1.Name == r_3.1.Name && (r_6.1.Class == r_3.1.Class && (r_6.1.Overlay == r_3.1.Overlay && true)))))))) : Bool) with
            | true =>
              replace h := ite_t hb_10 h
              refine RunAt.chunk 2 [⟨.ptr [12] 0 1, []⟩, ⟨.d (.sl (List.map (D.int .u8) r_5.1.Body)), []⟩] (by kernel_rfl) ?_
              refine RunAt.cut (some 98) .lenL [] none [.d (.sl (List.map (D.int .u8) r_5.1.Body))] (.d (.int .i64 (r_5.1.Body.length : Int))) [] (by kernel_rfl) (by kernel_rfl) (by kernel_rfl) (cut_len _) ?_
              refine RunAt.chunk 1 [⟨.d (.sl (List.map (D.int .u8) y8)), []⟩] (by kernel_rfl) ?_
              refine RunAt.cut (some 100) .lenL [] none [.d (.sl (List.map (D.int .u8) y8))] (.d (.int .i64 (y8.length : Int))) [] (by kernel_rfl) (by kernel_rfl) (by kernel_rfl) (cut_len _) ?_
              refine RunAt.chunk 3 [⟨.d (.bool (decide ((r_5.1.Body.length : Int) ≤ (y8.length : Int)))), []⟩, ⟨.d (.bool (decide ((r_5.1.Body.length : Int) ≤ (y8.length : Int)))), []⟩, ⟨.d (.bool (decide ((r_5.1.Body.length : Int) ≤ (y8.length : Int)))), []⟩] (by kernel_rfl) ?_
              refine RunAt.done (by kernel_rfl) ?_
              refine kS_nrm ?_
              refine Runs.ret ?_
              obtain rfl := Option.some.inj h
              exact ⟨Out.ret_ne, (by kernel_rfl)⟩
            | false =>
              replace h := ite_f hb_10 h
              refine RunAt.chunk 8 [⟨.tup [], []⟩, ⟨.tup [], []⟩, ⟨.tup [], []⟩, ⟨.tup [], []⟩, ⟨.tup [], []⟩, ⟨.tup [], []⟩, ⟨.d (.bool false), []⟩, ⟨.d (.bool false), []⟩] (by kernel_rfl) ?_
              refine RunAt.done (by kernel_rfl) ?_
              refine kS_nrm ?_
              refine Runs.ret ?_
              obtain rfl := Option.some.inj h
              exact ⟨Out.ret_ne, (by kernel_rfl)⟩
          | false =>
            replace h := ite_f hb_9 h
            refine RunAt.chunk 13 [⟨.tup [], []⟩, ⟨.tup [], []⟩, ⟨.tup [], []⟩, ⟨.d (.bool false), []⟩, ⟨.d (.bool false), []⟩, ⟨.tup [], []⟩, ⟨.tup [], []⟩, ⟨.tup [], []⟩, ⟨.tup [], []⟩, ⟨.tup [], []⟩, ⟨.tup [], []⟩, ⟨.d (.bool false), []⟩, ⟨.d (.bool false), []⟩] (by kernel_rfl) ?_
            refine RunAt.done (by kernel_rfl) ?_
            refine kS_nrm ?_
            refine Runs.ret ?_
            obtain rfl := Option.some.inj h
            exact ⟨Out.ret_ne, (by kernel_rfl)⟩
        | false =>
          replace h := ite_f hb_8 h
          refine RunAt.chunk 17 [⟨.tup [], []⟩, ⟨.tup [], []⟩, ⟨.d (.bool false), []⟩, ⟨.d (.bool false), []⟩, ⟨.tup [], []⟩, ⟨.tup [], []⟩, ⟨.tup [], []⟩, ⟨.d (.bool false), []⟩, ⟨.d (.bool false), []⟩, ⟨.tup [], []⟩, ⟨.tup [], []⟩, ⟨.tup [], []⟩, ⟨.tup [], []⟩, ⟨.tup [], []⟩, ⟨.tup [], []⟩, ⟨.d (.bool false), []⟩, ⟨.d (.bool false), []⟩] (by kernel_rfl) ?_
          refine RunAt.done (by kernel_rfl) ?_
          refine kS_nrm ?_
          refine Runs.ret ?_
          obtain rfl := Option.some.inj h
          exact ⟨Out.ret_ne, (by kernel_rfl)⟩
      | false =>
        replace h := ite_f hb_7 h
        refine RunAt.chunk 20 [⟨.tup [], []⟩, ⟨.d (.bool false), []⟩, ⟨.d (.bool false), []⟩, ⟨.tup [], []⟩, ⟨.tup [], []⟩, ⟨.d (.bool false), []⟩, ⟨.d (.bool false), []⟩, ⟨.tup [], []⟩, ⟨.tup [], []⟩, ⟨.tup [], []⟩, ⟨.d (.bool false), []⟩, ⟨.d (.bool false), []⟩, ⟨.tup [], []⟩, ⟨.tup [], []⟩, ⟨.tup [], []⟩, ⟨.tup [], []⟩, ⟨.tup [], []⟩, ⟨.tup [], []⟩, ⟨.d (.bool false), []⟩, ⟨.d (.bool false), []⟩] (by kernel_rfl) ?_
        refine RunAt.done (by kernel_rfl) ?_
        refine kS_nrm ?_
        refine Runs.ret ?_
        obtain rfl := Option.some.inj h
        exact ⟨Out.ret_ne, (by kernel_rfl)⟩
    | false =>
      replace h := ite_f hb_6 h
      refine RunAt.chunk 24 [⟨.tup [], []⟩, ⟨.tup [], []⟩, ⟨.d (.bool false), []⟩, ⟨.d (.bool false), []⟩, ⟨.tup [], []⟩, ⟨.d (.bool false), []⟩, ⟨.d (.bool false), []⟩, ⟨.tup [], []⟩, ⟨.tup [], []⟩, ⟨.d (.bool false), []⟩, ⟨.d (.bool false), []⟩, ⟨.tup [], []⟩, ⟨.tup [], []⟩, ⟨.tup [], []⟩, ⟨.d (.bool false), []⟩, ⟨.d (.bool false), []⟩, ⟨.tup [], []⟩, ⟨.tup [], []⟩, ⟨.tup [], []⟩, ⟨.tup [], []⟩, ⟨.tup [], []⟩, ⟨.tup [], []⟩, ⟨.d (.bool false), []⟩, ⟨.d (.bool false), []⟩] (by kernel_rfl) ?_
      refine RunAt.done (by kernel_rfl) ?_
      refine kS_nrm ?_
      refine Runs.ret ?_
      obtain rfl := Option.some.inj h
      exact ⟨Out.ret_ne, (by kernel_rfl)⟩
theorem hansomlaw21_SegsAny_ok (s_ : SegDef) (at_ : Int) (b_ : (List Int)) (r : Bool) (h : hansomlaw21_SegsAny s_ at_ b_ = some r) : Runs L F13.body ⟨tmOf [.d (SegDef.d s_), .d (.int .i64 at_), .d (.sl (List.map (D.int .u8) b_))] 0, updW (fun _ => none) []⟩ (hansomlaw21_SegsAny_Q s_ at_ b_ r) := by
  unfold hansomlaw21_SegsAny at h
  refine Runs.seq ?_
  refine Runs.ops ?_
  refine RunAt.chunk 2 [⟨.ptr [3] 0 0, [([3], some (.cells [.d (.int .i64 s_.Align), .d (.int .i64 s_.Combine), .d (.int .u16 s_.Frame), .d (.int .u8 s_.Offset), .d (.int .i64 s_.Len), .d (.int .i64 s_.Name), .d (.int .i64 s_.Class), .d (.int .i64 s_.Overlay)] 0))]⟩, ⟨.d (.bool false), []⟩] (by kernel_rfl) ?_
  refine RunAt.done (by kernel_rfl) ?_
  refine kS_nrm ?_
  refine Runs.seq ?_
  refine Runs.ops ?_
  refine RunAt.chunk 1 [⟨.d (SegDef.d s_), []⟩] (by kernel_rfl) ?_
  obtain ⟨r_1, hr_1, h⟩ := bind_s h
  have hc_1 := hansomlaw21_near_L s_ 6 r_1 hr_1
  refine RunAt.cut (some 17) (.callf 56) [] none [.d (SegDef.d s_), .d (.int .i64 6)] (.d (SegDef.d r_1)) [] (by kernel_rfl) (by kernel_rfl) (by kernel_rfl) (cut_call (call_of (ws := []) (us := []) (by kernel_rfl) (by kernel_rfl) hc_1 (by kernel_rfl) (by kernel_rfl))) ?_
  refine RunAt.chunk 2 [⟨.ptr [7] 0 0, [([7], some (.cells [.d (.int .i64 0), .d (.int .i64 0), .d (.int .u16 0), .d (.int .u8 0), .d (.int .i64 0), .d (.int .i64 0), .d (.int .i64 0), .d (.int .i64 0)] 0))]⟩, ⟨.tup [], [([7], some (.cells [.d (.int .i64 r_1.Align), .d (.int .i64 r_1.Combine), .d (.int .u16 r_1.Frame), .d (.int .u8 r_1.Offset), .d (.int .i64 r_1.Len), .d (.int .i64 r_1.Name), .d (.int .i64 r_1.Class), .d (.int .i64 r_1.Overlay)] 0))]⟩] (by kernel_rfl) ?_
  refine RunAt.done (by kernel_rfl) ?_
  refine kS_nrm ?_
  refine Runs.seq ?_
  refine Runs.ops ?_
  refine RunAt.chunk 1 [⟨.d (SegDef.d r_1), []⟩] (by kernel_rfl) ?_
  obtain ⟨r_2, hr_2, h⟩ := bind_s h
  have hc_2 := hansomref21_Segment_L r_1 r_2 hr_2
  refine RunAt.cut (some 19) (.callf 62) [] none [.d (SegDef.d r_1)] (.d (.str r_2)) [] (by kernel_rfl) (by kernel_rfl) (by kernel_rfl) (cut_call (call_of (ws := []) (us := []) (by kernel_rfl) (by kernel_rfl) hc_2 (by kernel_rfl) (by kernel_rfl))) ?_
  refine RunAt.cut (some 20) .strBytes [] none [.d (.str r_2)] (.ref [20] 0 0 (List.map (D.int .u8) (s2b r_2)).length 1) [([20], some (.arr (List.map (D.int .u8) (s2b r_2)) 0 false))] (by kernel_rfl) (by kernel_rfl) (by kernel_rfl) (cut_sb _ (by kernel_rfl)) ?_
  refine RunAt.chunk 1 [⟨.ref [20] 0 0 (List.map (D.int .u8) (s2b r_2)).length 1, []⟩] (by kernel_rfl) ?_
  refine RunAt.done (by kernel_rfl) ?_
  refine kS_nrm ?_
  refine Runs.seq ?_
  refine Runs.ops ?_
  refine RunAt.chunk 3 [⟨.d (.int .i64 at_), []⟩, ⟨.d (.int .i64 (bitsOp .and .i64 at_ 255)), []⟩, ⟨.ref [20] 0 0 (List.map (D.int .u8) (s2b r_2)).length 1, []⟩] (by kernel_rfl) ?_
  refine RunAt.cut (some 24) .lenL [] none [.ref [20] 0 0 (List.map (D.int .u8) (s2b r_2)).length 1] (.d (.int .i64 ((s2b r_2).length : Int))) [] (by kernel_rfl) (by kernel_rfl) (by kernel_rfl) (cut_lenR (e := (D.int .u8)) (s2b r_2) rfl) ?_
  obtain ⟨z_1, hz_1, h⟩ := bind_s h
  refine RunAt.cut (some 25) (.bin .rem) [] none [.d (.int .i64 (bitsOp .and .i64 at_ 255)), .d (.int .i64 ((s2b r_2).length : Int))] (.d (.int .i64 z_1)) [] (by kernel_rfl) (by kernel_rfl) (by kernel_rfl) (cut_rem hz_1) ?_
  refine RunAt.chunk 1 [⟨.d (.int .i64 z_1), []⟩] (by kernel_rfl) ?_
  refine RunAt.done (by kernel_rfl) ?_
  refine kS_nrm ?_
  refine Runs.seq ?_
  refine Runs.ops ?_
  refine RunAt.chunk 2 [⟨.ref [20] 0 0 (List.map (D.int .u8) (s2b r_2)).length 1, []⟩, ⟨.d (.int .i64 z_1), []⟩] (by kernel_rfl) ?_
  obtain ⟨z_2, hz_2, h⟩ := bind_s h
  refine RunAt.cut (some 28) (.iaddrS 1) [] none [.ref [20] 0 0 (List.map (D.int .u8) (s2b r_2)).length 1, .d (.int .i64 z_1)] (.eref [20] 0 (0 + (z_1).toNat) 0) [] (by kernel_rfl) (by kernel_rfl) (by kernel_rfl) (cut_atR (e := (D.int .u8)) (l := (s2b r_2)) hz_2 rfl) ?_
  refine RunAt.cut (some 29) (.load none) [] none [.eref [20] 0 (0 + (z_1).toNat) 0] (.d (.int .u8 z_2)) [] (by kernel_rfl) (by kernel_rfl) (by kernel_rfl) (cut_loadR (e := (D.int .u8)) (l := (s2b r_2)) (fz := false) (y := z_2) (by kernel_rfl) hz_2 (by kernel_rfl) (by kernel_rfl)) ?_
  refine RunAt.chunk 4 [⟨.d (.int .i64 at_), []⟩, ⟨.d (.int .i64 (shrI .i64 at_ 8)), []⟩, ⟨.d (.int .i64 (bitsOp .and .i64 (shrI .i64 at_ 8) 7)), []⟩, ⟨.d (.int .u64 (IntKind.wrap .u64 (bitsOp .and .i64 (shrI .i64 at_ 8) 7))), []⟩] (by kernel_rfl) ?_
  obtain ⟨z_3, hz_3, h⟩ := bind_s h
  refine RunAt.cut (some 34) (.bin .shl) [] none [.d (.int .u8 1), .d (.int .u64 (IntKind.wrap .u64 (bitsOp .and .i64 (shrI .i64 at_ 8) 7)))] (.d (.int .u8 z_3)) [] (by kernel_rfl) (by kernel_rfl) (by kernel_rfl) (cut_shl hz_3) ?_
  refine RunAt.chunk 1 [⟨.d (.int .u8 (bitsOp .xor .u8 z_2 z_3)), []⟩] (by kernel_rfl) ?_
  obtain ⟨z_4, hz_4, h⟩ := bind_s h
  refine RunAt.cut (some 36) (.iaddrS 1) [] none [.ref [20] 0 0 (List.map (D.int .u8) (s2b r_2)).length 1, .d (.int .i64 z_1)] (.eref [20] 0 (0 + (z_1).toNat) 0) [] (by kernel_rfl) (by kernel_rfl) (by kernel_rfl) (cut_atR (e := (D.int .u8)) (l := (s2b r_2)) hz_4 rfl) ?_
  refine RunAt.cut none (.store 1) [] none [.eref [20] 0 (0 + (z_1).toNat) 0, .d (.int .u8 (bitsOp .xor .u8 z_2 z_3))] (.tup []) [([20], some (.arr (List.map (D.int .u8) (List.set (s2b r_2) (z_1).toNat (bitsOp .xor .u8 z_2 z_3))) 0 false))] (by kernel_rfl) (by kernel_rfl) (by kernel_rfl) (cut_setR (e := (D.int .u8)) (l := (s2b r_2)) (y := z_4) (y' := (bitsOp .xor .u8 z_2 z_3)) (ds := [.int .u8 (bitsOp .xor .u8 z_2 z_3)]) (by kernel_rfl) hz_4 (by kernel_rfl) (by kernel_rfl) (by kernel_rfl) (by kernel_rfl)) ?_
  refine RunAt.done (by kernel_rfl) ?_
  refine kS_nrm ?_
  refine Runs.seq ?_
  refine Runs.seq ?_
  refine Runs.ops ?_
  refine RunAt.chunk 4 [⟨.d (.int .i64 at_), []⟩, ⟨.d (.int .i64 (shrI .i64 at_ 11)), []⟩, ⟨.d (.int .i64 (bitsOp .and .i64 (shrI .i64 at_ 11) 3)), []⟩, ⟨.d (.bool ((bitsOp .and .i64 (shrI .i64 at_ 11) 3) == 0)), []⟩] (by kernel_rfl) ?_
  refine RunAt.done (by kernel_rfl) ?_
  refine kS_nrm ?_
  cases hb_1 : (((bitsOp .and .i64 (shrI .i64 at_ 11) 3) == 0) : Bool) with
  | true =>
    replace h := ite_t hb_1 h
    refine Runs.cond_t (by kernel_rfl) ?_
    refine Runs.ops ?_
    refine RunAt.chunk 2 [⟨.d (.sl (List.map (D.int .u8) b_)), []⟩, ⟨.d (.sl (List.map (D.int .u8) b_)), []⟩] (by kernel_rfl) ?_
    refine RunAt.cut (some 43) .lenL [] none [.d (.sl (List.map (D.int .u8) b_))] (.d (.int .i64 (b_.length : Int))) [] (by kernel_rfl) (by kernel_rfl) (by kernel_rfl) (cut_len _) ?_
    refine RunAt.chunk 1 [⟨.d (.int .i64 (mnI (b_.length : Int) 14)), []⟩] (by kernel_rfl) ?_
    obtain ⟨z_5, hz_5, h⟩ := bind_s h
    refine RunAt.cut (some 45) (.subsl 1 false true false) [] none [.d (.sl (List.map (D.int .u8) b_)), .d (.int .i64 (mnI (b_.length : Int) 14))] (.d (.sl (List.map (D.int .u8) z_5))) [] (by kernel_rfl) (by kernel_rfl) (by kernel_rfl) (cut_slFT hz_5 (fun _ => rfl)) ?_
    refine RunAt.chunk 1 [⟨.d (.sl (List.map (D.int .u8) z_5)), []⟩] (by kernel_rfl) ?_
    refine RunAt.done (by kernel_rfl) ?_
    refine kS_nrm ?_
    refine Runs.canon (hansomlaw21_SegsAny_h16 z_5) (Canon.same (by kernel_rfl) (Canon.nil (by kernel_rfl))) ?_
    exact hansomlaw21_SegsAny_j16_ok s_ at_ b_ z_5 r h
  | false =>
    replace h := ite_f hb_1 h
    refine Runs.cond_f (by kernel_rfl) ?_
    refine Runs.skip ?_
    refine kS_nrm ?_
    refine Runs.canon (hansomlaw21_SegsAny_h16 (List.set (s2b r_2) (z_1).toNat (bitsOp .xor .u8 z_2 z_3))) (Canon.cons (frz_ref (e := (D.int .u8)) (l := (List.set (s2b r_2) (z_1).toNat (bitsOp .xor .u8 z_2 z_3))) (id := [20]) (v := 0) (n := 1) (fz := false) (by kernel_rfl) (by kernel_rfl) (by simp only [List.length_map, List.length_set] : (List.map (D.int .u8) (s2b r_2)).length = (List.map (D.int .u8) (List.set (s2b r_2) (z_1).toNat (bitsOp .xor .u8 z_2 z_3))).length)) (Canon.nil (by kernel_rfl))) ?_
    exact hansomlaw21_SegsAny_j16_ok s_ at_ b_ (List.set (s2b r_2) (z_1).toNat (bitsOp .xor .u8 z_2 z_3)) r h
theorem hansomlaw21_SegsAny_L (s_ : SegDef) (at_ : Int) (b_ : (List Int)) (r : Bool) (h : hansomlaw21_SegsAny s_ at_ b_ = some r) : L 13 [.d (SegDef.d s_), .d (.int .i64 at_), .d (.sl (List.map (D.int .u8) b_))] = some (.d (.bool r), [.d (SegDef.d s_), .d (.int .i64 at_), .d (.sl (List.map (D.int .u8) b_))]) := by
  obtain ⟨p, ⟨hne, hf⟩, hr⟩ := hansomlaw21_SegsAny_ok s_ at_ b_ r h
  obtain ⟨k, hk⟩ := run_of (F := F13) (args := [.d (SegDef.d s_), .d (.int .i64 at_), .d (.sl (List.map (D.int .u8) b_))]) (ap := [.d (SegDef.d s_), .d (.int .i64 at_), .d (.sl (List.map (D.int .u8) b_))]) (bx0 := updW (fun _ => none) []) rfl rfl (by kernel_rfl) ⟨p, ⟨hne, hf⟩, hr⟩
  exact lim_run (k := k) rfl hk
def segs_Group_h8 (b_8 : (List Int)) (b_2_0 : Int) (t10 : (List Int)) (t11 : Int) (t12 : Int) (v_8 : Nat) : St := ⟨tab [(2, .ptr [2] 0 0), (3, .ref [8] v_8 0 (List.map (D.int .u8) b_8).length 1), (10, .d (.sl (List.map (D.int .i64) t10))), (11, .d (.int .i64 t11)), (12, .d (.int .i64 t12))], tabB [([2], some (.cells [.d (.int .u8 b_2_0), .nils] 0)), ([8], some (.arr (List.map (D.int .u8) b_8) v_8 false))]⟩
def segs_Group_h21 (b_8 : (List Int)) (b_2_0 : Int) (v_8 : Nat) : St := ⟨tab [(2, .ptr [2] 0 0), (3, .ref [8] v_8 0 (List.map (D.int .u8) b_8).length 1)], tabB [([2], some (.cells [.d (.int .u8 b_2_0), .nils] 0)), ([8], some (.arr (List.map (D.int .u8) b_8) v_8 false))]⟩
def segs_Group_Q (g_ : GrpDef) (r : Record) (p : Out × St) : Prop := (∀ i, p.1 ≠ .exit i) ∧ finF F63 [.d (GrpDef.d g_)] p.2 = some (.d (Record.d r), [.d (GrpDef.d g_)])
def segs_Group_P8 (g_ : GrpDef) (b_2_0 : Int) (t10 : (List Int)) (t11 : Int) (e : (List Int)) (p : Out × St) : Prop := p.1 = .exit 0 ∧ ∃ g : Nat, Canon [] [2, 3] [[2], [8]] p.2 (segs_Group_h21 e b_2_0 g)
theorem segs_Group_l8_ok (g_ : GrpDef) (b_8 : (List Int)) (b_2_0 : Int) (t10 : (List Int)) (t11 : Int) (t12 : Int) (v_8 : Nat) (r : (Lp ((List Int) × Int) (List Int))) (h : segs_Group_l8 b_8 b_2_0 t10 t11 t12 = some r) : Runs L F63l8 (segs_Group_h8 b_8 b_2_0 t10 t11 t12 v_8) (LQ [] [2, 3, 10, 11, 12] [[2], [8]] (fun (x : ((List Int) × Int)) (g : Nat) => segs_Group_h8 x.1 b_2_0 t10 t11 x.2 g) (segs_Group_P8 g_ b_2_0 t10 t11) r) := by
  unfold segs_Group_l8 at h
  refine Runs.seq ?_
  refine Runs.ops ?_
  refine RunAt.chunk 1 [⟨.d (.bool (decide (t12 < t11))), []⟩] (by kernel_rfl) ?_
  refine RunAt.done (by kernel_rfl) ?_
  refine kS_nrm ?_
  refine Runs.seq ?_
  cases hb_1 : ((decide (t12 < t11)) : Bool) with
  | true =>
    replace h := ite_t hb_1 h
    refine Runs.cond_t (by kernel_rfl) ?_
    refine Runs.skip ?_
    refine kS_nrm ?_
    refine Runs.seq ?_
    refine Runs.block ?_
    refine Runs.seq ?_
    refine Runs.ops ?_
    obtain ⟨z_1, hz_1, h⟩ := bind_s h
    refine RunAt.cut (some 14) (.iaddrS 1) [] none [.d (.sl (List.map (D.int .i64) t10)), .d (.int .i64 t12)] (.elt (.int .i64 z_1) 0) [] (by kernel_rfl) (by kernel_rfl) (by kernel_rfl) (cut_at hz_1 (fun _ => rfl)) ?_
    refine RunAt.chunk 2 [⟨.d (.int .i64 z_1), []⟩, ⟨.d (.int .i64 z_1), []⟩] (by kernel_rfl) ?_
    refine RunAt.done (by kernel_rfl) ?_
    refine kS_nrm ?_
    refine Runs.ops ?_
    refine RunAt.chunk 2 [⟨.ref [8] v_8 0 (List.map (D.int .u8) b_8).length 1, []⟩, ⟨.ref [17] 0 0 (List.map (D.int .u8) ([255] : List Int)).length 1, [([17], some (.arr (List.map (D.int .u8) ([255] : List Int)) 0 false))]⟩] (by kernel_rfl) ?_
    obtain ⟨z_2, hz_2, h⟩ := bind_s h
    refine RunAt.cut (some 18) (.append 1 1 false) [] none [.ref [8] v_8 0 (List.map (D.int .u8) b_8).length 1, .ref [17] 0 0 (List.map (D.int .u8) ([255] : List Int)).length 1] (.ref [8] (v_8 + 1) 0 (List.map (D.int .u8) z_2).length 1) [([17], some (.arr (List.map (D.int .u8) ([255] : List Int)) 0 true)), ([8], some (.arr (List.map (D.int .u8) z_2) (v_8 + 1) false))] (by kernel_rfl) (by kernel_rfl) (by kernel_rfl) (cut_appR (e := (D.int .u8)) (l := b_8) (fz := false) (ws := [([17], some (.arr (List.map (D.int .u8) ([255] : List Int)) 0 true))]) (ap_ref (e := (D.int .u8)) (l := ([255] : List Int)) (fz := false) (by kernel_rfl) (by kernel_rfl) rfl) (fun _ => rfl) hz_2 (by kernel_rfl) (by kernel_rfl) rfl) ?_
    refine RunAt.chunk 1 [⟨.d (.int .i64 z_1), []⟩] (by kernel_rfl) ?_
    obtain ⟨r_2, hr_2, h⟩ := bind_s h
    have hc_2 := index_Put_L z_1 r_2 hr_2
    refine RunAt.cut (some 20) (.callf 16) [] none [.d (.int .i64 z_1)] (.ref [20] 0 0 (List.map (D.int .u8) r_2).length 1) [([20], some (.arr (List.map (D.int .u8) r_2) 0 false))] (by kernel_rfl) (by kernel_rfl) (by kernel_rfl) (cut_call (call_of (ws := []) (us := []) (by kernel_rfl) (gives_cons (ws := []) (give_same (by kernel_rfl)) gives_nil) hc_2 (by kernel_rfl) (by kernel_rfl))) ?_
    obtain ⟨z_3, hz_3, h⟩ := bind_s h
    refine RunAt.cut (some 21) (.append 1 1 false) [] none [.ref [8] (v_8 + 1) 0 (List.map (D.int .u8) z_2).length 1, .ref [20] 0 0 (List.map (D.int .u8) r_2).length 1] (.ref [8] ((v_8 + 1) + 1) 0 (List.map (D.int .u8) z_3).length 1) [([20], some (.arr (List.map (D.int .u8) r_2) 0 true)), ([8], some (.arr (List.map (D.int .u8) z_3) ((v_8 + 1) + 1) false))] (by kernel_rfl) (by kernel_rfl) (by kernel_rfl) (cut_appR (e := (D.int .u8)) (l := z_2) (fz := false) (ws := [([20], some (.arr (List.map (D.int .u8) r_2) 0 true))]) (ap_ref (e := (D.int .u8)) (l := r_2) (fz := false) (by kernel_rfl) (by kernel_rfl) rfl) (fun _ => rfl) hz_3 (by kernel_rfl) (by kernel_rfl) rfl) ?_
    refine RunAt.chunk 1 [⟨.ref [8] ((v_8 + 1) + 1) 0 (List.map (D.int .u8) z_3).length 1, []⟩] (by kernel_rfl) ?_
    refine RunAt.done (by kernel_rfl) ?_
    refine kB_nrm ?_
    refine kS_nrm ?_
    refine Runs.ops ?_
    refine RunAt.chunk 2 [⟨.d (.int .i64 (IntKind.wrap .i64 (t12 + 1))), []⟩, ⟨.d (.int .i64 (IntKind.wrap .i64 (t12 + 1))), []⟩] (by kernel_rfl) ?_
    refine RunAt.done (by kernel_rfl) ?_
    obtain rfl := Option.some.inj h
    exact ⟨rfl, ((v_8 + 1) + 1), (Canon.nil (by kernel_rfl))⟩
  | false =>
    replace h := ite_f hb_1 h
    refine Runs.cond_f (by kernel_rfl) ?_
    refine Runs.exit ?_
    refine kS_exit ?_
    obtain rfl := Option.some.inj h
    exact ⟨nofun, rfl, v_8, (Canon.nil (by kernel_rfl))⟩
theorem segs_Group_ok (g_ : GrpDef) (r : Record) (h : segs_Group g_ = some r) : Runs L F63.body ⟨tmOf [.d (GrpDef.d g_)] 0, updW (fun _ => none) []⟩ (segs_Group_Q g_ r) := by
  unfold segs_Group at h
  refine Runs.seq ?_
  refine Runs.ops ?_
  refine RunAt.chunk 2 [⟨.ptr [1] 0 0, [([1], some (.cells [.d (.int .i64 g_.Name), .d (.sl (List.map (D.int .i64) g_.Segs))] 0))]⟩, ⟨.ptr [2] 0 0, [([2], some (.cells [.d (.int .u8 0), .nils] 0))]⟩] (by kernel_rfl) ?_
  refine RunAt.done (by kernel_rfl) ?_
  refine kS_nrm ?_
  refine Runs.seq ?_
  refine Runs.ops ?_
  refine RunAt.chunk 2 [⟨.ptr [1] 0 0, []⟩, ⟨.d (.int .i64 g_.Name), []⟩] (by kernel_rfl) ?_
  obtain ⟨r_1, hr_1, h⟩ := bind_s h
  have hc_1 := index_Put_L g_.Name r_1 hr_1
  refine RunAt.cut (some 8) (.callf 16) [] none [.d (.int .i64 g_.Name)] (.ref [8] 0 0 (List.map (D.int .u8) r_1).length 1) [([8], some (.arr (List.map (D.int .u8) r_1) 0 false))] (by kernel_rfl) (by kernel_rfl) (by kernel_rfl) (cut_call (call_of (ws := []) (us := []) (by kernel_rfl) (gives_cons (ws := []) (give_same (by kernel_rfl)) gives_nil) hc_1 (by kernel_rfl) (by kernel_rfl))) ?_
  refine RunAt.chunk 1 [⟨.ref [8] 0 0 (List.map (D.int .u8) r_1).length 1, []⟩] (by kernel_rfl) ?_
  refine RunAt.done (by kernel_rfl) ?_
  refine kS_nrm ?_
  refine Runs.seq ?_
  refine Runs.seq ?_
  refine Runs.ops ?_
  refine RunAt.chunk 2 [⟨.ptr [1] 0 1, []⟩, ⟨.d (.sl (List.map (D.int .i64) g_.Segs)), []⟩] (by kernel_rfl) ?_
  refine RunAt.cut (some 11) .lenL [] none [.d (.sl (List.map (D.int .i64) g_.Segs))] (.d (.int .i64 (g_.Segs.length : Int))) [] (by kernel_rfl) (by kernel_rfl) (by kernel_rfl) (cut_len _) ?_
  refine RunAt.chunk 1 [⟨.d (.int .i64 0), []⟩] (by kernel_rfl) ?_
  refine RunAt.done (by kernel_rfl) ?_
  refine kS_nrm ?_
  refine Runs.block ?_
  obtain ⟨e_1, he_1, h⟩ := bind_s h
  refine Runs.loop (fun x : ((List Int) × Int) => segs_Group_l8 x.1 0 g_.Segs (g_.Segs.length : Int) x.2) (fun (x : ((List Int) × Int)) (g : Nat) => segs_Group_h8 x.1 0 g_.Segs (g_.Segs.length : Int) x.2 g) (segs_Group_P8 g_ 0 g_.Segs (g_.Segs.length : Int)) (fun x g r hr => segs_Group_l8_ok g_ x.1 0 g_.Segs (g_.Segs.length : Int) x.2 g r hr) 0 he_1 (Canon.nil (by kernel_rfl)) ?_
  rintro ⟨o, s⟩ hp
  obtain ⟨ho, g_1, hk_1⟩ := hp
  have ho' : o = .exit 0 := ho
  subst ho'
  refine kB_hit ?_
  refine kS_nrm ?_
  refine Runs.canon _ hk_1 ?_
  refine Runs.seq ?_
  refine Runs.ops ?_
  refine RunAt.chunk 3 [⟨.ref [8] g_1 0 (List.map (D.int .u8) e_1).length 1, []⟩, ⟨.mix [.d (.int .u8 154), .ref [8] g_1 0 (List.map (D.int .u8) e_1).length 1], []⟩, ⟨.tup [], [([2], some (.cells [.d (.int .u8 154), .ref [8] g_1 0 (List.map (D.int .u8) e_1).length 1] 0))]⟩] (by kernel_rfl) ?_
  refine RunAt.done (by kernel_rfl) ?_
  refine kS_nrm ?_
  refine Runs.seq ?_
  refine Runs.gcons (frzB_ref (e := (D.int .u8)) (l := e_1) (id := [2]) (id' := [8]) (v := g_1) (n := 1) (fz := false) (ver := 0) (cs := [.d (.int .u8 154), .ref [8] g_1 0 (List.map (D.int .u8) e_1).length 1]) (cs' := [.d (.int .u8 154), .d (.sl (List.map (D.int .u8) e_1))]) (by kernel_rfl) (by kernel_rfl) (by kernel_rfl) (by decide) (by kernel_rfl) rfl) ?_
  refine Runs.gnil ?_
  refine kS_nrm ?_
  refine Runs.ret ?_
  obtain rfl := Option.some.inj h
  exact ⟨Out.ret_ne, (by kernel_rfl)⟩
theorem segs_Group_L (g_ : GrpDef) (r : Record) (h : segs_Group g_ = some r) : L 63 [.d (GrpDef.d g_)] = some (.d (Record.d r), [.d (GrpDef.d g_)]) := by
  obtain ⟨p, ⟨hne, hf⟩, hr⟩ := segs_Group_ok g_ r h
  obtain ⟨k, hk⟩ := run_of (F := F63) (args := [.d (GrpDef.d g_)]) (ap := [.d (GrpDef.d g_)]) (bx0 := updW (fun _ => none) []) rfl rfl (by kernel_rfl) ⟨p, ⟨hne, hf⟩, hr⟩
  exact lim_run (k := k) rfl hk
def segs_Groups_h6 (g5 : GrpDef) (b_8 : Source) (b_2_0 : Int) (v_901_5 : Nat) : St := ⟨tab [(2, .ptr [2] 0 0), (4, .ptr [8] 0 0), (5, .ptr [5] 0 0)], tabB [([2], some (.cells [.d (.int .i64 b_2_0), .nils] 0)), ([5], some (.cells [.d (.int .i64 g5.Name), .ref [901, 5] v_901_5 0 (List.map (D.int .i64) g5.Segs).length 1] 0)), ([8], some (.cells [.d (.sl (List.map (D.int .u8) b_8.b)), .d (.int .i64 b_8.e)] 0)), ([901, 5], some (.arr (List.map (D.int .i64) g5.Segs) v_901_5 false))]⟩
def segs_Groups_h8 (g5 : GrpDef) (b_8 : Source) (b_2_0 : Int) (v_901_5 : Nat) : St := ⟨tab [(2, .ptr [2] 0 0), (4, .ptr [8] 0 0), (5, .ptr [5] 0 0)], tabB [([2], some (.cells [.d (.int .i64 b_2_0), .nils] 0)), ([5], some (.cells [.d (.int .i64 g5.Name), .ref [901, 5] v_901_5 0 (List.map (D.int .i64) g5.Segs).length 1] 0)), ([8], some (.cells [.d (.sl (List.map (D.int .u8) b_8.b)), .d (.int .i64 b_8.e)] 0)), ([901, 5], some (.arr (List.map (D.int .i64) g5.Segs) v_901_5 false))]⟩
def segs_Groups_h23 (g5 : GrpDef) (b_8 : Source) (b_2_0 : Int) (v_901_5 : Nat) : St := ⟨tab [(2, .ptr [2] 0 0), (4, .ptr [8] 0 0), (5, .ptr [5] 0 0)], tabB [([2], some (.cells [.d (.int .i64 b_2_0), .nils] 0)), ([5], some (.cells [.d (.int .i64 g5.Name), .ref [901, 5] v_901_5 0 (List.map (D.int .i64) g5.Segs).length 1] 0)), ([8], some (.cells [.d (.sl (List.map (D.int .u8) b_8.b)), .d (.int .i64 b_8.e)] 0)), ([901, 5], some (.arr (List.map (D.int .i64) g5.Segs) v_901_5 false))]⟩
def segs_Groups_Q (b_ : (List Int)) (r : (GrpDef × Int)) (p : Out × St) : Prop := (∀ i, p.1 ≠ .exit i) ∧ finF F64 [.d (.sl (List.map (D.int .u8) b_))] p.2 = some (.tup [.d (GrpDef.d r.1), .d (.int .i64 r.2)], [.d (.sl (List.map (D.int .u8) b_))])
def segs_Groups_P8 (b_ : (List Int)) (b_2_0 : Int) (e : (GrpDef × Source)) (p : Out × St) : Prop := p.1 = .exit 0 ∧ ∃ g : Nat, Canon [] [2, 4, 5] [[2], [5], [8], [901, 5]] p.2 (segs_Groups_h23 e.1 e.2 b_2_0 g)
theorem segs_Groups_l8_ok (b_ : (List Int)) (g5 : GrpDef) (b_8 : Source) (b_2_0 : Int) (v_901_5 : Nat) (r : (Lp (GrpDef × Source) (GrpDef × Source))) (h : segs_Groups_l8 g5 b_8 b_2_0 = some r) : Runs L F64l8 (segs_Groups_h8 g5 b_8 b_2_0 v_901_5) (LQ [] [2, 4, 5] [[2], [5], [8], [901, 5]] (fun (x : (GrpDef × Source)) (g : Nat) => segs_Groups_h8 x.1 x.2 b_2_0 g) (segs_Groups_P8 b_ b_2_0) r) := by
  unfold segs_Groups_l8 at h
  refine Runs.seq ?_
  refine Runs.seq ?_
  refine Runs.ops ?_
  refine RunAt.chunk 1 [⟨.ptr [8] 0 0, []⟩] (by kernel_rfl) ?_
  obtain ⟨r_3, hr_3, h⟩ := bind_s h
  have hc_3 := index_Source_Left_L b_8 r_3 hr_3
  refine RunAt.cut (some 13) (.callf 29) [] none [.ptr [8] 0 0] (.d (.int .i64 r_3)) [([8], some (.cells [.d (.sl (List.map (D.int .u8) b_8.b)), .d (.int .i64 b_8.e)] 0))] (by kernel_rfl) (by kernel_rfl) (by kernel_rfl) (cut_call (call_of (ws := []) (us := [([8], some (.cells [.d (.sl (List.map (D.int .u8) b_8.b)), .d (.int .i64 b_8.e)] 0))]) (by kernel_rfl) (by kernel_rfl) hc_3 (by kernel_rfl) (by kernel_rfl))) ?_
  refine RunAt.chunk 1 [⟨.d (.bool (decide (r_3 > 0))), []⟩] (by kernel_rfl) ?_
  refine RunAt.done (by kernel_rfl) ?_
  refine kS_nrm ?_
  cases hb_1 : ((decide (r_3 > 0)) : Bool) with
  | true =>
    replace h := ite_t hb_1 h
    refine Runs.cond_t (by kernel_rfl) ?_
    refine Runs.skip ?_
    refine kS_nrm ?_
    refine Runs.block ?_
    refine Runs.seq ?_
    refine Runs.seq ?_
    refine Runs.ops ?_
    refine RunAt.chunk 1 [⟨.ptr [8] 0 0, []⟩] (by kernel_rfl) ?_
    obtain ⟨r_4, hr_4, h⟩ := bind_s h
    have hc_4 := index_Source_Byte_L b_8 r_4 hr_4
    refine RunAt.cut (some 16) (.callf 35) [] none [.ptr [8] 0 0] (.d (.int .u8 r_4.1)) [([8], some (.cells [.d (.sl (List.map (D.int .u8) r_4.2.b)), .d (.int .i64 r_4.2.e)] 0))] (by kernel_rfl) (by kernel_rfl) (by kernel_rfl) (cut_call (call_of (ws := []) (us := [([8], some (.cells [.d (.sl (List.map (D.int .u8) r_4.2.b)), .d (.int .i64 r_4.2.e)] 0))]) (by kernel_rfl) (by kernel_rfl) hc_4 (by kernel_rfl) (by kernel_rfl))) ?_
    refine RunAt.chunk 1 [⟨.d (.bool (r_4.1 != 255)), []⟩] (by kernel_rfl) ?_
    refine RunAt.done (by kernel_rfl) ?_
    refine kS_nrm ?_
    cases hb_2 : ((r_4.1 != 255) : Bool) with
    | true =>
      replace h := ite_t hb_2 h
      refine Runs.cond_t (by kernel_rfl) ?_
      refine Runs.ops ?_
      refine RunAt.chunk 1 [⟨.ptr [8] 0 0, []⟩] (by kernel_rfl) ?_
      obtain ⟨r_5, hr_5, h⟩ := bind_s h
      have hc_5 := index_Source_Wrong_L r_4.2 3 r_5 hr_5
      refine RunAt.cut (some 19) (.callf 27) [] none [.ptr [8] 0 0, .d (.int .i64 3)] (.tup []) [([8], some (.cells [.d (.sl (List.map (D.int .u8) r_5.b)), .d (.int .i64 r_5.e)] 0))] (by kernel_rfl) (by kernel_rfl) (by kernel_rfl) (cut_call (call_of (ws := []) (us := [([8], some (.cells [.d (.sl (List.map (D.int .u8) r_5.b)), .d (.int .i64 r_5.e)] 0))]) (by kernel_rfl) (by kernel_rfl) hc_5 (by kernel_rfl) (by kernel_rfl))) ?_
      refine RunAt.done (by kernel_rfl) ?_
      refine kS_nrm ?_
      refine Runs.ops ?_
      refine RunAt.chunk 3 [⟨.ptr [5] 0 1, []⟩, ⟨.ref [901, 5] v_901_5 0 (List.map (D.int .i64) g5.Segs).length 1, []⟩, ⟨.ptr [8] 0 0, []⟩] (by kernel_rfl) ?_
      obtain ⟨r_6, hr_6, h⟩ := bind_s h
      have hc_6 := index_Source_Index_L r_5 r_6 hr_6
      refine RunAt.cut (some 23) (.callf 31) [] (some [[0, 8], [8]]) [.ptr [8] 0 0] (.d (.int .i64 r_6.1)) [([8], some (.cells [.d (.sl (List.map (D.int .u8) r_6.2.b)), .d (.int .i64 r_6.2.e)] 0))] (by kernel_rfl) (by kernel_rfl) (by kernel_rfl) (cut_call (call_of (ws := []) (us := [([8], some (.cells [.d (.sl (List.map (D.int .u8) r_6.2.b)), .d (.int .i64 r_6.2.e)] 0))]) (by kernel_rfl) (by kernel_rfl) hc_6 (by kernel_rfl) (by kernel_rfl))) ?_
      refine RunAt.chunk 1 [⟨.ref [24] 0 0 (List.map (D.int .i64) ([r_6.1] : List Int)).length 1, [([24], some (.arr (List.map (D.int .i64) ([r_6.1] : List Int)) 0 false))]⟩] (by kernel_rfl) ?_
      obtain ⟨z_1, hz_1, h⟩ := bind_s h
      refine RunAt.cut (some 25) (.append 1 8 false) [] none [.ref [901, 5] v_901_5 0 (List.map (D.int .i64) g5.Segs).length 1, .ref [24] 0 0 (List.map (D.int .i64) ([r_6.1] : List Int)).length 1] (.ref [901, 5] (v_901_5 + 1) 0 (List.map (D.int .i64) z_1).length 1) [([24], some (.arr (List.map (D.int .i64) ([r_6.1] : List Int)) 0 true)), ([901, 5], some (.arr (List.map (D.int .i64) z_1) (v_901_5 + 1) false))] (by kernel_rfl) (by kernel_rfl) (by kernel_rfl) (cut_appR (e := (D.int .i64)) (l := g5.Segs) (fz := false) (ws := [([24], some (.arr (List.map (D.int .i64) ([r_6.1] : List Int)) 0 true))]) (ap_ref (e := (D.int .i64)) (l := ([r_6.1] : List Int)) (fz := false) (by kernel_rfl) (by kernel_rfl) rfl) (fun _ => rfl) hz_1 (by kernel_rfl) (by kernel_rfl) rfl) ?_
      refine RunAt.chunk 2 [⟨.ptr [5] 0 1, []⟩, ⟨.tup [], [([5], some (.cells [.d (.int .i64 g5.Name), .ref [901, 5] (v_901_5 + 1) 0 (List.map (D.int .i64) z_1).length 1] 0))]⟩] (by kernel_rfl) ?_
      refine RunAt.done (by kernel_rfl) ?_
      refine kB_nrm ?_
      obtain rfl := Option.some.inj h
      exact ⟨rfl, (v_901_5 + 1), (Canon.nil (by kernel_rfl))⟩
    | false =>
      replace h := ite_f hb_2 h
      refine Runs.cond_f (by kernel_rfl) ?_
      refine Runs.skip ?_
      refine kS_nrm ?_
      refine Runs.ops ?_
      refine RunAt.chunk 3 [⟨.ptr [5] 0 1, []⟩, ⟨.ref [901, 5] v_901_5 0 (List.map (D.int .i64) g5.Segs).length 1, []⟩, ⟨.ptr [8] 0 0, []⟩] (by kernel_rfl) ?_
      obtain ⟨r_7, hr_7, h⟩ := bind_s h
      have hc_7 := index_Source_Index_L r_4.2 r_7 hr_7
      refine RunAt.cut (some 23) (.callf 31) [] (some [[0, 8], [8]]) [.ptr [8] 0 0] (.d (.int .i64 r_7.1)) [([8], some (.cells [.d (.sl (List.map (D.int .u8) r_7.2.b)), .d (.int .i64 r_7.2.e)] 0))] (by kernel_rfl) (by kernel_rfl) (by kernel_rfl) (cut_call (call_of (ws := []) (us := [([8], some (.cells [.d (.sl (List.map (D.int .u8) r_7.2.b)), .d (.int .i64 r_7.2.e)] 0))]) (by kernel_rfl) (by kernel_rfl) hc_7 (by kernel_rfl) (by kernel_rfl))) ?_
      refine RunAt.chunk 1 [⟨.ref [24] 0 0 (List.map (D.int .i64) ([r_7.1] : List Int)).length 1, [([24], some (.arr (List.map (D.int .i64) ([r_7.1] : List Int)) 0 false))]⟩] (by kernel_rfl) ?_
      obtain ⟨z_2, hz_2, h⟩ := bind_s h
      refine RunAt.cut (some 25) (.append 1 8 false) [] none [.ref [901, 5] v_901_5 0 (List.map (D.int .i64) g5.Segs).length 1, .ref [24] 0 0 (List.map (D.int .i64) ([r_7.1] : List Int)).length 1] (.ref [901, 5] (v_901_5 + 1) 0 (List.map (D.int .i64) z_2).length 1) [([24], some (.arr (List.map (D.int .i64) ([r_7.1] : List Int)) 0 true)), ([901, 5], some (.arr (List.map (D.int .i64) z_2) (v_901_5 + 1) false))] (by kernel_rfl) (by kernel_rfl) (by kernel_rfl) (cut_appR (e := (D.int .i64)) (l := g5.Segs) (fz := false) (ws := [([24], some (.arr (List.map (D.int .i64) ([r_7.1] : List Int)) 0 true))]) (ap_ref (e := (D.int .i64)) (l := ([r_7.1] : List Int)) (fz := false) (by kernel_rfl) (by kernel_rfl) rfl) (fun _ => rfl) hz_2 (by kernel_rfl) (by kernel_rfl) rfl) ?_
      refine RunAt.chunk 2 [⟨.ptr [5] 0 1, []⟩, ⟨.tup [], [([5], some (.cells [.d (.int .i64 g5.Name), .ref [901, 5] (v_901_5 + 1) 0 (List.map (D.int .i64) z_2).length 1] 0))]⟩] (by kernel_rfl) ?_
      refine RunAt.done (by kernel_rfl) ?_
      refine kB_nrm ?_
      obtain rfl := Option.some.inj h
      exact ⟨rfl, (v_901_5 + 1), (Canon.nil (by kernel_rfl))⟩
  | false =>
    replace h := ite_f hb_1 h
    refine Runs.cond_f (by kernel_rfl) ?_
    refine Runs.exit ?_
    refine kS_exit ?_
    obtain rfl := Option.some.inj h
    exact ⟨nofun, rfl, v_901_5, (Canon.nil (by kernel_rfl))⟩
theorem segs_Groups_ok (b_ : (List Int)) (r : (GrpDef × Int)) (h : segs_Groups b_ = some r) : Runs L F64.body ⟨tmOf [.d (.sl (List.map (D.int .u8) b_))] 0, updW (fun _ => none) []⟩ (segs_Groups_Q b_ r) := by
  unfold segs_Groups at h
  refine Runs.seq ?_
  refine Runs.ops ?_
  refine RunAt.chunk 2 [⟨.ptr [2] 0 0, [([2], some (.cells [.d (.int .i64 0), .nils] 0))]⟩, ⟨.d (.int .i64 0), []⟩] (by kernel_rfl) ?_
  refine RunAt.done (by kernel_rfl) ?_
  refine kS_nrm ?_
  refine Runs.seq ?_
  refine Runs.ops ?_
  refine RunAt.chunk 1 [⟨.d (.sl (List.map (D.int .u8) b_)), []⟩] (by kernel_rfl) ?_
  obtain ⟨r_1, hr_1, h⟩ := bind_s h
  have hc_1 := index_From_L b_ r_1 hr_1
  refine RunAt.cut (some 8) (.callf 25) [] none [.d (.sl (List.map (D.int .u8) b_))] (.ptr [8] 0 0) [([8], some (.cells [.d (.sl (List.map (D.int .u8) r_1.b)), .d (.int .i64 r_1.e)] 0))] (by kernel_rfl) (by kernel_rfl) (by kernel_rfl) (cut_call (call_of (ws := []) (us := []) (by kernel_rfl) (by kernel_rfl) hc_1 (by kernel_rfl) (by kernel_rfl))) ?_
  refine RunAt.chunk 1 [⟨.ptr [8] 0 0, []⟩] (by kernel_rfl) ?_
  refine RunAt.done (by kernel_rfl) ?_
  refine kS_nrm ?_
  refine Runs.seq ?_
  refine Runs.ops ?_
  refine RunAt.chunk 1 [⟨.ptr [8] 0 0, []⟩] (by kernel_rfl) ?_
  obtain ⟨r_2, hr_2, h⟩ := bind_s h
  have hc_2 := index_Source_Index_L r_1 r_2 hr_2
  refine RunAt.cut (some 10) (.callf 31) [] none [.ptr [8] 0 0] (.d (.int .i64 r_2.1)) [([8], some (.cells [.d (.sl (List.map (D.int .u8) r_2.2.b)), .d (.int .i64 r_2.2.e)] 0))] (by kernel_rfl) (by kernel_rfl) (by kernel_rfl) (cut_call (call_of (ws := []) (us := [([8], some (.cells [.d (.sl (List.map (D.int .u8) r_2.2.b)), .d (.int .i64 r_2.2.e)] 0))]) (by kernel_rfl) (by kernel_rfl) hc_2 (by kernel_rfl) (by kernel_rfl))) ?_
  refine RunAt.chunk 3 [⟨.mix [.d (.int .i64 r_2.1), .nils], []⟩, ⟨.ptr [5] 0 0, [([5], some (.cells [.d (.int .i64 0), .nils] 0))]⟩, ⟨.tup [], [([5], some (.cells [.d (.int .i64 r_2.1), .nils] 0))]⟩] (by kernel_rfl) ?_
  refine RunAt.done (by kernel_rfl) ?_
  refine kS_nrm ?_
  refine Runs.canon (segs_Groups_h6 ({ Name := r_2.1, Segs := ([] : List Int) } : GrpDef) r_2.2 0 0) (Canon.cons (ownB_nil (ver := 0) (v := 0) (cs := [.d (.int .i64 r_2.1), .nils]) (cs' := [.d (.int .i64 r_2.1), .ref [901, 5] 0 0 (List.map (D.int .i64) ([] : List Int)).length 1]) (D.int .i64) (by kernel_rfl) (by kernel_rfl) (by kernel_rfl) (by decide) (by kernel_rfl)) (Canon.nil (by kernel_rfl))) ?_
  refine Runs.seq ?_
  refine Runs.block ?_
  obtain ⟨e_1, he_1, h⟩ := bind_s h
  refine Runs.loop (fun x : (GrpDef × Source) => segs_Groups_l8 x.1 x.2 0) (fun (x : (GrpDef × Source)) (g : Nat) => segs_Groups_h8 x.1 x.2 0 g) (segs_Groups_P8 b_ 0) (fun x g r hr => segs_Groups_l8_ok b_ x.1 x.2 0 g r hr) 0 he_1 (Canon.nil (by kernel_rfl)) ?_
  rintro ⟨o, s⟩ hp
  obtain ⟨ho, g_1, hk_1⟩ := hp
  have ho' : o = .exit 0 := ho
  subst ho'
  refine kB_hit ?_
  refine kS_nrm ?_
  refine Runs.canon _ hk_1 ?_
  refine Runs.seq ?_
  refine Runs.seq ?_
  refine Runs.ops ?_
  refine RunAt.chunk 1 [⟨.ptr [8] 0 0, []⟩] (by kernel_rfl) ?_
  obtain ⟨r_3, hr_3, h⟩ := bind_s h
  have hc_3 := index_Source_Err_L e_1.2 r_3 hr_3
  refine RunAt.cut (some 28) (.callf 28) [] none [.ptr [8] 0 0] (.d (.int .i64 r_3)) [([8], some (.cells [.d (.sl (List.map (D.int .u8) e_1.2.b)), .d (.int .i64 e_1.2.e)] 0))] (by kernel_rfl) (by kernel_rfl) (by kernel_rfl) (cut_call (call_of (ws := []) (us := [([8], some (.cells [.d (.sl (List.map (D.int .u8) e_1.2.b)), .d (.int .i64 e_1.2.e)] 0))]) (by kernel_rfl) (by kernel_rfl) hc_3 (by kernel_rfl) (by kernel_rfl))) ?_
  refine RunAt.chunk 1 [⟨.d (.int .i64 r_3), []⟩] (by kernel_rfl) ?_
  refine RunAt.done (by kernel_rfl) ?_
  refine kS_nrm ?_
  refine Runs.seq ?_
  refine Runs.ops ?_
  refine RunAt.chunk 2 [⟨.d (.int .i64 r_3), []⟩, ⟨.d (.bool (r_3 != 0)), []⟩] (by kernel_rfl) ?_
  refine RunAt.done (by kernel_rfl) ?_
  refine kS_nrm ?_
  cases hb_1 : ((r_3 != 0) : Bool) with
  | true =>
    replace h := ite_t hb_1 h
    refine Runs.cond_t (by kernel_rfl) ?_
    refine Runs.seq ?_
    refine Runs.ops ?_
    refine RunAt.chunk 4 [⟨.mix [.d (.int .i64 0), .nils], []⟩, ⟨.d (.int .i64 r_3), []⟩, ⟨.tup [], [([2], some (.cells [.d (.int .i64 0), .nils] 0))]⟩, ⟨.d (.int .i64 r_3), []⟩] (by kernel_rfl) ?_
    refine RunAt.done (by kernel_rfl) ?_
    refine kS_nrm ?_
    refine Runs.seq ?_
    refine Runs.gcons (frzB_nil (ver := 0) (cs := [.d (.int .i64 0), .nils]) (cs' := [.d (.int .i64 0), .d (.sl (List.map (D.int .i64) ([] : List Int)))]) (D.int .i64) (by kernel_rfl) (by kernel_rfl) (by kernel_rfl)) ?_
    refine Runs.gnil ?_
    refine kS_nrm ?_
    refine Runs.ret ?_
    refine kS_ret ?_
    obtain rfl := Option.some.inj h
    exact ⟨Out.ret_ne, (by kernel_rfl)⟩
  | false =>
    replace h := ite_f hb_1 h
    refine Runs.cond_f (by kernel_rfl) ?_
    refine Runs.skip ?_
    refine kS_nrm ?_
    refine Runs.seq ?_
    refine Runs.ops ?_
    refine RunAt.chunk 3 [⟨.mix [.d (.int .i64 e_1.1.Name), .ref [901, 5] g_1 0 (List.map (D.int .i64) e_1.1.Segs).length 1], []⟩, ⟨.tup [], [([2], some (.cells [.d (.int .i64 e_1.1.Name), .ref [901, 5] g_1 0 (List.map (D.int .i64) e_1.1.Segs).length 1] 0))]⟩, ⟨.d (.int .i64 0), []⟩] (by kernel_rfl) ?_
    refine RunAt.done (by kernel_rfl) ?_
    refine kS_nrm ?_
    refine Runs.seq ?_
    refine Runs.gcons (frzB_ref (e := (D.int .i64)) (l := e_1.1.Segs) (id := [2]) (id' := [901, 5]) (v := g_1) (n := 1) (fz := false) (ver := 0) (cs := [.d (.int .i64 e_1.1.Name), .ref [901, 5] g_1 0 (List.map (D.int .i64) e_1.1.Segs).length 1]) (cs' := [.d (.int .i64 e_1.1.Name), .d (.sl (List.map (D.int .i64) e_1.1.Segs))]) (by kernel_rfl) (by kernel_rfl) (by kernel_rfl) (by decide) (by kernel_rfl) rfl) ?_
    refine Runs.gnil ?_
    refine kS_nrm ?_
    refine Runs.ret ?_
    obtain rfl := Option.some.inj h
    exact ⟨Out.ret_ne, (by kernel_rfl)⟩
theorem segs_Groups_L (b_ : (List Int)) (r : (GrpDef × Int)) (h : segs_Groups b_ = some r) : L 64 [.d (.sl (List.map (D.int .u8) b_))] = some (.tup [.d (GrpDef.d r.1), .d (.int .i64 r.2)], [.d (.sl (List.map (D.int .u8) b_))]) := by
  obtain ⟨p, ⟨hne, hf⟩, hr⟩ := segs_Groups_ok b_ r h
  obtain ⟨k, hk⟩ := run_of (F := F64) (args := [.d (.sl (List.map (D.int .u8) b_))]) (ap := [.d (.sl (List.map (D.int .u8) b_))]) (bx0 := updW (fun _ => none) []) rfl rfl (by kernel_rfl) ⟨p, ⟨hne, hf⟩, hr⟩
  exact lim_run (k := k) rfl hk
def hansomref21_Group_h8 (g1 : GrpDef) (b3 : (List UInt8)) (i4 : Int) : St := ⟨tab [(1, .ptr [1] 0 0), (3, .d (.str b3)), (4, .d (.int .i64 i4))], tabB [([1], some (.cells [.d (.int .i64 g1.Name), .d (.sl (List.map (D.int .i64) g1.Segs))] 0))]⟩
def hansomref21_Group_h19 (b3 : (List UInt8)) : St := ⟨tab [(3, .d (.str b3))], tabB []⟩
def hansomref21_Group_Q (g_ : GrpDef) (r : (List UInt8)) (p : Out × St) : Prop := (∀ i, p.1 ≠ .exit i) ∧ finF F65 [.d (GrpDef.d g_)] p.2 = some (.d (.str r), [.d (GrpDef.d g_)])
def hansomref21_Group_P8 (g_ : GrpDef) (g1 : GrpDef) (e : (List UInt8)) (p : Out × St) : Prop := p.1 = .exit 0 ∧ ∃ g : Unit, Canon [] [3] [] p.2 (hansomref21_Group_h19 e)
theorem hansomref21_Group_l8_ok (g_ : GrpDef) (g1 : GrpDef) (b3 : (List UInt8)) (i4 : Int) (r : (Lp ((List UInt8) × Int) (List UInt8))) (h : hansomref21_Group_l8 g1 b3 i4 = some r) : Runs L F65l8 (hansomref21_Group_h8 g1 b3 i4) (LQ [] [1, 3, 4] [[1]] (fun (x : ((List UInt8) × Int)) (g : Unit) => hansomref21_Group_h8 g1 x.1 x.2) (hansomref21_Group_P8 g_ g1) r) := by
  unfold hansomref21_Group_l8 at h
  refine Runs.seq ?_
  refine Runs.seq ?_
  refine Runs.ops ?_
  refine RunAt.chunk 3 [⟨.d (.int .i64 i4), []⟩, ⟨.ptr [1] 0 1, []⟩, ⟨.d (.sl (List.map (D.int .i64) g1.Segs)), []⟩] (by kernel_rfl) ?_
  refine RunAt.cut (some 11) .lenL [] none [.d (.sl (List.map (D.int .i64) g1.Segs))] (.d (.int .i64 (g1.Segs.length : Int))) [] (by kernel_rfl) (by kernel_rfl) (by kernel_rfl) (cut_len _) ?_
  refine RunAt.chunk 1 [⟨.d (.bool (decide (i4 < (g1.Segs.length : Int)))), []⟩] (by kernel_rfl) ?_
  refine RunAt.done (by kernel_rfl) ?_
  refine kS_nrm ?_
  cases hb_1 : ((decide (i4 < (g1.Segs.length : Int))) : Bool) with
  | true =>
    replace h := ite_t hb_1 h
    refine Runs.cond_t (by kernel_rfl) ?_
    refine Runs.skip ?_
    refine kS_nrm ?_
    refine Runs.seq ?_
    refine Runs.block ?_
    refine Runs.ops ?_
    refine RunAt.chunk 4 [⟨.d (.str b3), []⟩, ⟨.ptr [1] 0 1, []⟩, ⟨.d (.sl (List.map (D.int .i64) g1.Segs)), []⟩, ⟨.d (.int .i64 i4), []⟩] (by kernel_rfl) ?_
    obtain ⟨z_1, hz_1, h⟩ := bind_s h
    refine RunAt.cut (some 19) (.iaddrS 1) [] none [.d (.sl (List.map (D.int .i64) g1.Segs)), .d (.int .i64 i4)] (.elt (.int .i64 z_1) 0) [] (by kernel_rfl) (by kernel_rfl) (by kernel_rfl) (cut_at hz_1 (fun _ => rfl)) ?_
    refine RunAt.chunk 1 [⟨.d (.int .i64 z_1), []⟩] (by kernel_rfl) ?_
    obtain ⟨r_2, hr_2, h⟩ := bind_s h
    have hc_2 := hansomref18_Index_L z_1 r_2 hr_2
    refine RunAt.cut (some 21) (.callf 17) [] none [.d (.int .i64 z_1)] (.d (.str r_2)) [] (by kernel_rfl) (by kernel_rfl) (by kernel_rfl) (cut_call (call_of (ws := []) (us := []) (by kernel_rfl) (by kernel_rfl) hc_2 (by kernel_rfl) (by kernel_rfl))) ?_
    obtain ⟨z_2, hz_2, h⟩ := bind_s h
    refine RunAt.cut (some 22) (.bin .add) [] none [.d (.str ([255] : List UInt8)), .d (.str r_2)] (.d (.str z_2)) [] (by kernel_rfl) (by kernel_rfl) (by kernel_rfl) (cut_cat hz_2) ?_
    obtain ⟨z_3, hz_3, h⟩ := bind_s h
    refine RunAt.cut (some 23) (.bin .add) [] none [.d (.str b3), .d (.str z_2)] (.d (.str z_3)) [] (by kernel_rfl) (by kernel_rfl) (by kernel_rfl) (cut_cat hz_3) ?_
    refine RunAt.chunk 1 [⟨.d (.str z_3), []⟩] (by kernel_rfl) ?_
    refine RunAt.done (by kernel_rfl) ?_
    refine kB_nrm ?_
    refine kS_nrm ?_
    refine Runs.ops ?_
    refine RunAt.chunk 3 [⟨.d (.int .i64 i4), []⟩, ⟨.d (.int .i64 (IntKind.wrap .i64 (i4 + 1))), []⟩, ⟨.d (.int .i64 (IntKind.wrap .i64 (i4 + 1))), []⟩] (by kernel_rfl) ?_
    refine RunAt.done (by kernel_rfl) ?_
    obtain rfl := Option.some.inj h
    exact ⟨rfl, (), (Canon.nil (by kernel_rfl))⟩
  | false =>
    replace h := ite_f hb_1 h
    refine Runs.cond_f (by kernel_rfl) ?_
    refine Runs.exit ?_
    refine kS_exit ?_
    obtain rfl := Option.some.inj h
    exact ⟨nofun, rfl, (), (Canon.nil (by kernel_rfl))⟩
theorem hansomref21_Group_ok (g_ : GrpDef) (r : (List UInt8)) (h : hansomref21_Group g_ = some r) : Runs L F65.body ⟨tmOf [.d (GrpDef.d g_)] 0, updW (fun _ => none) []⟩ (hansomref21_Group_Q g_ r) := by
  unfold hansomref21_Group at h
  refine Runs.seq ?_
  refine Runs.ops ?_
  refine RunAt.chunk 2 [⟨.ptr [1] 0 0, [([1], some (.cells [.d (.int .i64 g_.Name), .d (.sl (List.map (D.int .i64) g_.Segs))] 0))]⟩, ⟨.d (.str ([] : List UInt8)), []⟩] (by kernel_rfl) ?_
  refine RunAt.done (by kernel_rfl) ?_
  refine kS_nrm ?_
  refine Runs.seq ?_
  refine Runs.ops ?_
  refine RunAt.chunk 2 [⟨.ptr [1] 0 0, []⟩, ⟨.d (.int .i64 g_.Name), []⟩] (by kernel_rfl) ?_
  obtain ⟨r_1, hr_1, h⟩ := bind_s h
  have hc_1 := hansomref18_Index_L g_.Name r_1 hr_1
  refine RunAt.cut (some 7) (.callf 17) [] none [.d (.int .i64 g_.Name)] (.d (.str r_1)) [] (by kernel_rfl) (by kernel_rfl) (by kernel_rfl) (cut_call (call_of (ws := []) (us := []) (by kernel_rfl) (by kernel_rfl) hc_1 (by kernel_rfl) (by kernel_rfl))) ?_
  refine RunAt.chunk 1 [⟨.d (.str r_1), []⟩] (by kernel_rfl) ?_
  refine RunAt.done (by kernel_rfl) ?_
  refine kS_nrm ?_
  refine Runs.seq ?_
  refine Runs.seq ?_
  refine Runs.ops ?_
  refine RunAt.chunk 1 [⟨.d (.int .i64 0), []⟩] (by kernel_rfl) ?_
  refine RunAt.done (by kernel_rfl) ?_
  refine kS_nrm ?_
  refine Runs.block ?_
  obtain ⟨e_1, he_1, h⟩ := bind_s h
  refine Runs.loop (fun x : ((List UInt8) × Int) => hansomref21_Group_l8 g_ x.1 x.2) (fun (x : ((List UInt8) × Int)) (g : Unit) => hansomref21_Group_h8 g_ x.1 x.2) (hansomref21_Group_P8 g_ g_) (fun x g r hr => hansomref21_Group_l8_ok g_ g_ x.1 x.2  r hr) () he_1 (Canon.nil (by kernel_rfl)) ?_
  rintro ⟨o, s⟩ hp
  obtain ⟨ho, g_1, hk_1⟩ := hp
  have ho' : o = .exit 0 := ho
  subst ho'
  refine kB_hit ?_
  refine kS_nrm ?_
  refine Runs.canon _ hk_1 ?_
  refine Runs.seq ?_
  refine Runs.ops ?_
  refine RunAt.chunk 2 [⟨.d (.str e_1), []⟩, ⟨.d (.str e_1), []⟩] (by kernel_rfl) ?_
  refine RunAt.done (by kernel_rfl) ?_
  refine kS_nrm ?_
  refine Runs.ret ?_
  obtain rfl := Option.some.inj h
  exact ⟨Out.ret_ne, (by kernel_rfl)⟩
theorem hansomref21_Group_L (g_ : GrpDef) (r : (List UInt8)) (h : hansomref21_Group g_ = some r) : L 65 [.d (GrpDef.d g_)] = some (.d (.str r), [.d (GrpDef.d g_)]) := by
  obtain ⟨p, ⟨hne, hf⟩, hr⟩ := hansomref21_Group_ok g_ r h
  obtain ⟨k, hk⟩ := run_of (F := F65) (args := [.d (GrpDef.d g_)]) (ap := [.d (GrpDef.d g_)]) (bx0 := updW (fun _ => none) []) rfl rfl (by kernel_rfl) ⟨p, ⟨hne, hf⟩, hr⟩
  exact lim_run (k := k) rfl hk
def hansomlaw21_SegsGroup_h4 (g7 : GrpDef) (l1 : (List Int)) (at2 : Int) (v_901_7 : Nat) : St := ⟨tab [(1, .d (.sl (List.map (D.int .i64) l1))), (2, .d (.int .i64 at2)), (7, .ptr [7] 0 0)], tabB [([7], some (.cells [.d (.int .i64 g7.Name), .ref [901, 7] v_901_7 0 (List.map (D.int .i64) g7.Segs).length 1] 0)), ([901, 7], some (.arr (List.map (D.int .i64) g7.Segs) v_901_7 false))]⟩
def hansomlaw21_SegsGroup_h8 (g7 : GrpDef) (l1 : (List Int)) (at2 : Int) (i8 : Int) (v_901_7 : Nat) : St := ⟨tab [(1, .d (.sl (List.map (D.int .i64) l1))), (2, .d (.int .i64 at2)), (7, .ptr [7] 0 0), (8, .d (.int .i64 i8))], tabB [([7], some (.cells [.d (.int .i64 g7.Name), .ref [901, 7] v_901_7 0 (List.map (D.int .i64) g7.Segs).length 1] 0)), ([901, 7], some (.arr (List.map (D.int .i64) g7.Segs) v_901_7 false))]⟩
def hansomlaw21_SegsGroup_h19 (g7 : GrpDef) (at2 : Int) (v_901_7 : Nat) : St := ⟨tab [(2, .d (.int .i64 at2)), (7, .ptr [7] 0 0)], tabB [([7], some (.cells [.d (.int .i64 g7.Name), .ref [901, 7] v_901_7 0 (List.map (D.int .i64) g7.Segs).length 1] 0)), ([901, 7], some (.arr (List.map (D.int .i64) g7.Segs) v_901_7 false))]⟩
def hansomlaw21_SegsGroup_h35 (g7 : GrpDef) (r9 : Record) (h10 : GrpDef) (at2 : Int) (i12 : Int) (v_901_7 : Nat) (f_901_7 : Bool) : St := ⟨tab [(2, .d (.int .i64 at2)), (7, .ptr [7] 0 0), (9, .ptr [9] 0 0), (10, .ptr [10] 0 0), (12, .d (.int .i64 i12))], tabB [([7], some (.cells [.d (.int .i64 g7.Name), .ref [901, 7] v_901_7 0 (List.map (D.int .i64) g7.Segs).length 1] 0)), ([9], some (.cells [.d (.int .u8 r9.Kind), .d (.sl (List.map (D.int .u8) r9.Body))] 0)), ([10], some (.cells [.d (.int .i64 h10.Name), .d (.sl (List.map (D.int .i64) h10.Segs))] 0)), ([901, 7], some (.arr (List.map (D.int .i64) g7.Segs) v_901_7 f_901_7))]⟩
def hansomlaw21_SegsGroup_h52 (r9 : Record) (at2 : Int) : St := ⟨tab [(2, .d (.int .i64 at2)), (9, .ptr [9] 0 0)], tabB [([9], some (.cells [.d (.int .u8 r9.Kind), .d (.sl (List.map (D.int .u8) r9.Body))] 0))]⟩
def hansomlaw21_SegsGroup_Q (name_ : Int) (l_ : (List Int)) (at_ : Int) (r : Bool) (p : Out × St) : Prop := (∀ i, p.1 ≠ .exit i) ∧ finF F14 [.d (.int .i64 name_), .d (.sl (List.map (D.int .i64) l_)), .d (.int .i64 at_)] p.2 = some (.d (.bool r), [.d (.int .i64 name_), .d (.sl (List.map (D.int .i64) l_)), .d (.int .i64 at_)])
def hansomlaw21_SegsGroup_P8 (name_ : Int) (l_ : (List Int)) (at_ : Int) (l1 : (List Int)) (at2 : Int) (e : GrpDef) (p : Out × St) : Prop := p.1 = .exit 0 ∧ ∃ g : Nat, Canon [] [2, 7] [[7], [901, 7]] p.2 (hansomlaw21_SegsGroup_h19 e at2 g)
def hansomlaw21_SegsGroup_P35 (name_ : Int) (l_ : (List Int)) (at_ : Int) (g7 : GrpDef) (r9 : Record) (h10 : GrpDef) (at2 : Int) (e : (Bool ⊕ Unit)) (p : Out × St) : Prop := match e with
  | .inl x => p.1 = .ret ∧ finF F14 [.d (.int .i64 name_), .d (.sl (List.map (D.int .i64) l_)), .d (.int .i64 at_)] p.2 = some (.d (.bool x), [.d (.int .i64 name_), .d (.sl (List.map (D.int .i64) l_)), .d (.int .i64 at_)])
  | .inr x => p.1 = .exit 2 ∧ ∃ g : Unit, Canon [] [2, 9] [[9]] p.2 (hansomlaw21_SegsGroup_h52 r9 at2)
theorem hansomlaw21_SegsGroup_l8_ok (name_ : Int) (l_ : (List Int)) (at_ : Int) (g7 : GrpDef) (l1 : (List Int)) (at2 : Int) (i8 : Int) (v_901_7 : Nat) (r : (Lp (GrpDef × Int) GrpDef)) (h : hansomlaw21_SegsGroup_l8 g7 l1 at2 i8 = some r) : Runs L F14l8 (hansomlaw21_SegsGroup_h8 g7 l1 at2 i8 v_901_7) (LQ [] [1, 2, 7, 8] [[7], [901, 7]] (fun (x : (GrpDef × Int)) (g : Nat) => hansomlaw21_SegsGroup_h8 x.1 l1 at2 x.2 g) (hansomlaw21_SegsGroup_P8 name_ l_ at_ l1 at2) r) := by
  unfold hansomlaw21_SegsGroup_l8 at h
  refine Runs.seq ?_
  refine Runs.seq ?_
  refine Runs.ops ?_
  refine RunAt.chunk 2 [⟨.d (.int .i64 i8), []⟩, ⟨.d (.sl (List.map (D.int .i64) l1)), []⟩] (by kernel_rfl) ?_
  refine RunAt.cut (some 21) .lenL [] none [.d (.sl (List.map (D.int .i64) l1))] (.d (.int .i64 (l1.length : Int))) [] (by kernel_rfl) (by kernel_rfl) (by kernel_rfl) (cut_len _) ?_
  refine RunAt.chunk 2 [⟨.d (.bool (decide (i8 < (l1.length : Int)))), []⟩, ⟨.d (.bool (decide (i8 < (l1.length : Int)))), []⟩] (by kernel_rfl) ?_
  cases hb_1 : ((decide (i8 < (l1.length : Int))) : Bool) with
  | true =>
    replace h := ite_t hb_1 h
    refine RunAt.chunk 3 [⟨.d (.int .i64 i8), []⟩, ⟨.d (.bool (decide (i8 < 12))), []⟩, ⟨.d (.bool (decide (i8 < 12))), []⟩] (by kernel_rfl) ?_
    refine RunAt.done (by kernel_rfl) ?_
    refine kS_nrm ?_
    cases hb_2 : ((decide (i8 < 12)) : Bool) with
    | true =>
      replace h := ite_t hb_2 h
      refine Runs.cond_t (by kernel_rfl) ?_
      refine Runs.skip ?_
      refine kS_nrm ?_
      refine Runs.seq ?_
      refine Runs.block ?_
      refine Runs.ops ?_
      refine RunAt.chunk 4 [⟨.ptr [7] 0 1, []⟩, ⟨.ref [901, 7] v_901_7 0 (List.map (D.int .i64) g7.Segs).length 1, []⟩, ⟨.d (.sl (List.map (D.int .i64) l1)), []⟩, ⟨.d (.int .i64 i8), []⟩] (by kernel_rfl) ?_
      obtain ⟨z_1, hz_1, h⟩ := bind_s h
      refine RunAt.cut (some 33) (.iaddrS 1) [] none [.d (.sl (List.map (D.int .i64) l1)), .d (.int .i64 i8)] (.elt (.int .i64 z_1) 0) [] (by kernel_rfl) (by kernel_rfl) (by kernel_rfl) (cut_at hz_1 (fun _ => rfl)) ?_
      refine RunAt.chunk 3 [⟨.d (.int .i64 z_1), []⟩, ⟨.d (.int .i64 (bitsOp .and .i64 z_1 1023)), []⟩, ⟨.ref [36] 0 0 (List.map (D.int .i64) ([(bitsOp .and .i64 z_1 1023)] : List Int)).length 1, [([36], some (.arr (List.map (D.int .i64) ([(bitsOp .and .i64 z_1 1023)] : List Int)) 0 false))]⟩] (by kernel_rfl) ?_
      obtain ⟨z_2, hz_2, h⟩ := bind_s h
      refine RunAt.cut (some 37) (.append 1 8 false) [] none [.ref [901, 7] v_901_7 0 (List.map (D.int .i64) g7.Segs).length 1, .ref [36] 0 0 (List.map (D.int .i64) ([(bitsOp .and .i64 z_1 1023)] : List Int)).length 1] (.ref [901, 7] (v_901_7 + 1) 0 (List.map (D.int .i64) z_2).length 1) [([36], some (.arr (List.map (D.int .i64) ([(bitsOp .and .i64 z_1 1023)] : List Int)) 0 true)), ([901, 7], some (.arr (List.map (D.int .i64) z_2) (v_901_7 + 1) false))] (by kernel_rfl) (by kernel_rfl) (by kernel_rfl) (cut_appR (e := (D.int .i64)) (l := g7.Segs) (fz := false) (ws := [([36], some (.arr (List.map (D.int .i64) ([(bitsOp .and .i64 z_1 1023)] : List Int)) 0 true))]) (ap_ref (e := (D.int .i64)) (l := ([(bitsOp .and .i64 z_1 1023)] : List Int)) (fz := false) (by kernel_rfl) (by kernel_rfl) rfl) (fun _ => rfl) hz_2 (by kernel_rfl) (by kernel_rfl) rfl) ?_
      refine RunAt.chunk 2 [⟨.ptr [7] 0 1, []⟩, ⟨.tup [], [([7], some (.cells [.d (.int .i64 g7.Name), .ref [901, 7] (v_901_7 + 1) 0 (List.map (D.int .i64) z_2).length 1] 0))]⟩] (by kernel_rfl) ?_
      refine RunAt.done (by kernel_rfl) ?_
      refine kB_nrm ?_
      refine kS_nrm ?_
      refine Runs.ops ?_
      refine RunAt.chunk 3 [⟨.d (.int .i64 i8), []⟩, ⟨.d (.int .i64 (IntKind.wrap .i64 (i8 + 1))), []⟩, ⟨.d (.int .i64 (IntKind.wrap .i64 (i8 + 1))), []⟩] (by kernel_rfl) ?_
      refine RunAt.done (by kernel_rfl) ?_
      obtain rfl := Option.some.inj h
      exact ⟨rfl, (v_901_7 + 1), (Canon.nil (by kernel_rfl))⟩
    | false =>
      replace h := ite_f hb_2 h
      refine Runs.cond_f (by kernel_rfl) ?_
      refine Runs.exit ?_
      refine kS_exit ?_
      obtain rfl := Option.some.inj h
      exact ⟨nofun, rfl, v_901_7, (Canon.nil (by kernel_rfl))⟩
  | false =>
    replace h := ite_f hb_1 h
    refine RunAt.chunk 3 [⟨.tup [], []⟩, ⟨.tup [], []⟩, ⟨.d (.bool false), []⟩] (by kernel_rfl) ?_
    refine RunAt.done (by kernel_rfl) ?_
    refine kS_nrm ?_
    refine Runs.cond_f (by kernel_rfl) ?_
    refine Runs.exit ?_
    refine kS_exit ?_
    obtain rfl := Option.some.inj h
    exact ⟨nofun, rfl, v_901_7, (Canon.nil (by kernel_rfl))⟩
theorem hansomlaw21_SegsGroup_l35_ok (name_ : Int) (l_ : (List Int)) (at_ : Int) (g7 : GrpDef) (r9 : Record) (h10 : GrpDef) (at2 : Int) (i12 : Int) (v_901_7 : Nat) (f_901_7 : Bool) (r : (Lp Int (Bool ⊕ Unit))) (h : hansomlaw21_SegsGroup_l35 g7 r9 h10 at2 i12 = some r) : Runs L F14l35 (hansomlaw21_SegsGroup_h35 g7 r9 h10 at2 i12 v_901_7 f_901_7) (LQ [] [2, 7, 9, 10, 12] [[7], [9], [10], [901, 7]] (fun (x : Int) (g : (Nat × Bool)) => hansomlaw21_SegsGroup_h35 g7 r9 h10 at2 x g.1 g.2) (hansomlaw21_SegsGroup_P35 name_ l_ at_ g7 r9 h10 at2) r) := by
  unfold hansomlaw21_SegsGroup_l35 at h
  refine Runs.seq ?_
  refine Runs.seq ?_
  refine Runs.ops ?_
  refine RunAt.chunk 3 [⟨.d (.int .i64 i12), []⟩, ⟨.ptr [7] 0 1, []⟩, ⟨.ref [901, 7] v_901_7 0 (List.map (D.int .i64) g7.Segs).length 1, []⟩] (by kernel_rfl) ?_
  refine RunAt.cut (some 81) .lenL [] none [.ref [901, 7] v_901_7 0 (List.map (D.int .i64) g7.Segs).length 1] (.d (.int .i64 (g7.Segs.length : Int))) [] (by kernel_rfl) (by kernel_rfl) (by kernel_rfl) (cut_lenR (e := (D.int .i64)) g7.Segs rfl) ?_
  refine RunAt.chunk 1 [⟨.d (.bool (decide (i12 < (g7.Segs.length : Int)))), []⟩] (by kernel_rfl) ?_
  refine RunAt.done (by kernel_rfl) ?_
  refine kS_nrm ?_
  cases hb_6 : ((decide (i12 < (g7.Segs.length : Int))) : Bool) with
  | true =>
    replace h := ite_t hb_6 h
    refine Runs.cond_t (by kernel_rfl) ?_
    refine Runs.skip ?_
    refine kS_nrm ?_
    refine Runs.seq ?_
    refine Runs.block ?_
    refine Runs.seq ?_
    refine Runs.ops ?_
    refine RunAt.chunk 3 [⟨.ptr [10] 0 1, []⟩, ⟨.d (.sl (List.map (D.int .i64) h10.Segs)), []⟩, ⟨.d (.int .i64 i12), []⟩] (by kernel_rfl) ?_
    obtain ⟨z_1, hz_1, h⟩ := bind_s h
    refine RunAt.cut (some 88) (.iaddrS 1) [] none [.d (.sl (List.map (D.int .i64) h10.Segs)), .d (.int .i64 i12)] (.elt (.int .i64 z_1) 0) [] (by kernel_rfl) (by kernel_rfl) (by kernel_rfl) (cut_at hz_1 (fun _ => rfl)) ?_
    refine RunAt.chunk 4 [⟨.d (.int .i64 z_1), []⟩, ⟨.ptr [7] 0 1, []⟩, ⟨.ref [901, 7] v_901_7 0 (List.map (D.int .i64) g7.Segs).length 1, []⟩, ⟨.d (.int .i64 i12), []⟩] (by kernel_rfl) ?_
    obtain ⟨z_2, hz_2, h⟩ := bind_s h
    refine RunAt.cut (some 93) (.iaddrS 1) [] none [.ref [901, 7] v_901_7 0 (List.map (D.int .i64) g7.Segs).length 1, .d (.int .i64 i12)] (.eref [901, 7] v_901_7 (0 + (i12).toNat) 0) [] (by kernel_rfl) (by kernel_rfl) (by kernel_rfl) (cut_atR (e := (D.int .i64)) (l := g7.Segs) hz_2 rfl) ?_
    refine RunAt.cut (some 94) (.load none) [] none [.eref [901, 7] v_901_7 (0 + (i12).toNat) 0] (.d (.int .i64 z_2)) [] (by kernel_rfl) (by kernel_rfl) (by kernel_rfl) (cut_loadR (e := (D.int .i64)) (l := g7.Segs) (fz := f_901_7) (y := z_2) (by kernel_rfl) hz_2 (by kernel_rfl) (by kernel_rfl)) ?_
    refine RunAt.chunk 1 [⟨.d (.bool (z_1 != z_2)), []⟩] (by kernel_rfl) ?_
    refine RunAt.done (by kernel_rfl) ?_
    refine kS_nrm ?_
    cases hb_7 : ((z_1 != z_2) : Bool) with
    | true =>
      replace h := ite_t hb_7 h
      refine Runs.cond_t (by kernel_rfl) ?_
      refine Runs.seq ?_
      refine Runs.ops ?_
      refine RunAt.chunk 1 [⟨.d (.bool false), []⟩] (by kernel_rfl) ?_
      refine RunAt.done (by kernel_rfl) ?_
      refine kS_nrm ?_
      refine Runs.ret ?_
      refine kB_ret ?_
      refine kS_ret ?_
      obtain rfl := Option.some.inj h
      exact ⟨nofun, rfl, (by kernel_rfl)⟩
    | false =>
      replace h := ite_f hb_7 h
      refine Runs.cond_f (by kernel_rfl) ?_
      refine Runs.skip ?_
      refine kB_nrm ?_
      refine kS_nrm ?_
      refine Runs.ops ?_
      refine RunAt.chunk 3 [⟨.d (.int .i64 i12), []⟩, ⟨.d (.int .i64 (IntKind.wrap .i64 (i12 + 1))), []⟩, ⟨.d (.int .i64 (IntKind.wrap .i64 (i12 + 1))), []⟩] (by kernel_rfl) ?_
      refine RunAt.done (by kernel_rfl) ?_
      obtain rfl := Option.some.inj h
      exact ⟨rfl, (v_901_7, f_901_7), (Canon.nil (by kernel_rfl))⟩
  | false =>
    replace h := ite_f hb_6 h
    refine Runs.cond_f (by kernel_rfl) ?_
    refine Runs.exit ?_
    refine kS_exit ?_
    obtain rfl := Option.some.inj h
    exact ⟨nofun, rfl, (), (Canon.nil (by kernel_rfl))⟩
end Go.Es.Seg
